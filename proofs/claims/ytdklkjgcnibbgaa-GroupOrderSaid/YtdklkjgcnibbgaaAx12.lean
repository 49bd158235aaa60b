-- PRINTED by print.py (a twelfth state) out of the translation. Not trusted: Lean checks it.
import Derived.Test.YtdklkjgcnibbgaaAx0
import Derived.Test.YtdklkjgcnibbgaaAx4
import Derived.Test.YtdklkjgcnibbgaaAx5
import Derived.Test.YtdklkjgcnibbgaaAx11
namespace Go.Proofs.Ytdklkjgcnibbgaa.A
open Go.RowKit Go.Proofs.YtdklkjgcnibbgaaW.PrintWords Go.Proofs.YtdklkjgcnibbgaaW.PrintLast Go.Proofs.YtdklkjgcnibbgaaW.PrintMore
attribute [local go_sem] max2_int min2_int max_two min_two max_three min_three max_four min_four   -- for this text's walks alone
set_option linter.unusedVariables false
set_option linter.unusedSimpArgs false

/-! ### group_Best: function 22 -/
/-- What a call leaves as it was, but for the blocks of S. -/
structure Frm (S : Nat → Prop) (w W : World) : Prop where
  os : W.os = w.os
  tape : W.tape = w.tape
  output : W.output = w.output
  size : w.heap.size ≤ W.heap.size
  block : ∀ k, k < w.heap.size → ¬ S k → W.heap[k]? = w.heap[k]?
theorem Frm.refl (S : Nat → Prop) (w : World) : Frm S w w := ⟨rfl, rfl, rfl, Nat.le_refl _, fun _ _ _ => rfl⟩
theorem Frm.trans {S : Nat → Prop} {w1 w2 w3 : World} (h : Frm S w1 w2) (h2 : Frm S w2 w3) : Frm S w1 w3 := ⟨h2.os.trans h.os, h2.tape.trans h.tape, h2.output.trans h.output, Nat.le_trans h.size h2.size, fun k hk hs => (h2.block k (Nat.lt_of_lt_of_le hk h.size) hs).trans (h.block k hk hs)⟩
theorem Frm.mono {S S' : Nat → Prop} {w W : World} (h : Frm S w W) (hS : ∀ k, S k → S' k) : Frm S' w W := ⟨h.os, h.tape, h.output, h.size, fun k hk hs => h.block k hk (fun h => hs (hS k h))⟩
theorem Frm.of_below {S : Nat → Prop} {w W : World} (h : Below w.heap.size w W) : Frm S w W := ⟨h.os, h.tape, h.output, h.size, fun k hk _ => h.block k hk⟩
theorem Frm.below {S : Nat → Prop} {w0 w W : World} (h : Frm S w W) (h0 : Below w0.heap.size w0 w) (hS : ∀ k, S k → w0.heap.size ≤ k) : Below w0.heap.size w0 W := ⟨h.os.trans h0.os, h.tape.trans h0.tape, h.output.trans h0.output, Nat.le_trans h0.size h.size, fun k hk => (h.block k (Nat.lt_of_lt_of_le hk h0.size) (fun hs => absurd (hS k hs) (Nat.not_le.2 hk))).trans (h0.block k hk)⟩
theorem Frm.set {S : Nat → Prop} {w W : World} (h : Frm S w W) {g : Nat} (hg : S g) (o : Nat) (u : Value) : Frm S w (W.setCell ⟨g, o, none⟩ u) := ⟨h.os, h.tape, h.output, by simpa [World.setCell] using h.size, fun k hk hs => (Below.heap_setCell W ⟨g, o, none⟩ u k (fun he => by subst he; exact hs hg)).trans (h.block k hk hs)⟩
theorem Frm.sets {S : Nat → Prop} {w W : World} (h : Frm S w W) {g : Nat} (hg : S g) (o : Nat) (us : List Value) : Frm S w (W.setCells g o us) := by
  obtain ⟨h1, h2, h3, h4⟩ := setCells_same g us o W
  exact ⟨h1.trans h.os, h2.trans h.tape, h3.trans h.output, by rw [h4]; exact h.size, fun k hk hs => (setCells_far us o k (fun he => by subst he; exact hs hg)).trans (h.block k hk hs)⟩
theorem Frm.at_ {S : Nat → Prop} {w W : World} (h : Frm S w W) {k : Nat} {o : Obj} (hk : w.heap[k]? = some o) (hs : ¬ S k) : W.heap[k]? = some o := by
  obtain ⟨hlt, _⟩ := Array.getElem?_eq_some_iff.1 hk
  exact (h.block k hlt hs).trans hk

def extT (xs : List S60) (st a0 a1 a2 : Int) : S60 := ⟨a0, a1, wrap64 (a2 + (rd_T60 xs (Go.bits .andNot .i64 st a1)).f2), wrap64 (1 + (rd_T60 xs (Go.bits .andNot .i64 st a1)).f3)⟩
def extB (xs : List S60) (st : Int) (fd : Bool) (a0 a1 a2 : Int) : Bool := !fd || (decide ((extT xs st a0 a1 a2).f2 < (rd_T60 xs st).f2) || (decide ((extT xs st a0 a1 a2).f2 = (rd_T60 xs st).f2) && decide ((extT xs st a0 a1 a2).f3 < (rd_T60 xs st).f3)))
def extV (xs : List S60) (st : Int) (fd : Bool) (a0 a1 a2 : Int) : List S60 := if extB xs st fd a0 a1 a2 = true then xs.set st.toNat (extT xs st a0 a1 a2) else xs
def extIn (xs : List S60) (st a1 : Int) : Prop := (0 ≤ Go.bits .andNot .i64 st a1 ∧ Go.bits .andNot .i64 st a1 < xs.length) ∧ 0 ≤ st ∧ st < xs.length
instance (xs : List S60) (st a1 : Int) : Decidable (extIn xs st a1) := by unfold extIn; infer_instance
set_option maxHeartbeats 4000000 in
set_option maxRecDepth 100000 in
theorem ext31 (a0 a1 a2 : Int) (gB gS gF gr c : Nat) (st : Int) (fd : Bool) (xs : List S60) (base : Nat) (w : World)
    (hB : w.heap[gB]? = some (.cells #[.slice (some ⟨gr, 0, none⟩) xs.length c] 58 (0, 0))) (hS : w.heap[gS]? = some (.cells #[.int .i64 st] 3 (0, 0))) (hF : w.heap[gF]? = some (.cells #[.bool fd] 4 (0, 0)))
    (hR : Kd.R k60 60 w base (fun _ => True) (.slice (some ⟨gr, 0, none⟩) xs.length c) xs) (hin : extIn xs st a1) :
    Calls Try.prog 31 #[.int .i64 a0, .int .i64 a1, .int .i64 a2, .pointer (some ⟨gB, 0, none⟩), .pointer (some ⟨gS, 0, none⟩), .pointer (some ⟨gF, 0, none⟩)] w fun e w' => e = .returned (.tuple #[]) ∧ Kd.R k60 60 w' base (fun _ => True) (.slice (some ⟨gr, 0, none⟩) xs.length c) (extV xs st fd a0 a1 a2) ∧ w'.heap[gF]? = some (.cells #[.bool true] 4 (0, 0)) ∧ Frm (fun k => k = gr ∨ k = gF) w w' := by
  have hu60 := Try.underlying60
  have hu58 := Try.underlying58
  obtain ⟨⟨p1, q1⟩, p2, q2⟩ := hin
  have hC := (Kd.R_reads' hR).2.2
  obtain ⟨cx, hclx, hMx, hccx, hfrx⟩ := Kd.R_elem hR z60 (Go.bits .andNot .i64 st a1) p1 q1
  obtain rfl := k60_openM hMx
  have x0 : w.cell? ⟨gr, (Go.bits .andNot .i64 st a1).toNat * 4, none⟩ = some (.int .i64 (rd_T60 xs (Go.bits .andNot .i64 st a1)).f0) := hccx 0 _ rfl
  have x1 : w.cell? ⟨gr, (Go.bits .andNot .i64 st a1).toNat * 4 + 1, none⟩ = some (.int .i64 (rd_T60 xs (Go.bits .andNot .i64 st a1)).f1) := hccx 1 _ rfl
  have x2 : w.cell? ⟨gr, (Go.bits .andNot .i64 st a1).toNat * 4 + 2, none⟩ = some (.int .i64 (rd_T60 xs (Go.bits .andNot .i64 st a1)).f2) := hccx 2 _ rfl
  have x3 : w.cell? ⟨gr, (Go.bits .andNot .i64 st a1).toNat * 4 + 3, none⟩ = some (.int .i64 (rd_T60 xs (Go.bits .andNot .i64 st a1)).f3) := hccx 3 _ rfl
  obtain ⟨cy, hcly, hMy, hccy, hfry⟩ := Kd.R_elem hR z60 st p2 q2
  obtain rfl := k60_openM hMy
  have y0 : w.cell? ⟨gr, st.toNat * 4, none⟩ = some (.int .i64 (rd_T60 xs st).f0) := hccy 0 _ rfl
  have y1 : w.cell? ⟨gr, st.toNat * 4 + 1, none⟩ = some (.int .i64 (rd_T60 xs st).f1) := hccy 1 _ rfl
  have y2 : w.cell? ⟨gr, st.toNat * 4 + 2, none⟩ = some (.int .i64 (rd_T60 xs st).f2) := hccy 2 _ rfl
  have y3 : w.cell? ⟨gr, st.toNat * 4 + 3, none⟩ = some (.int .i64 (rd_T60 xs st).f3) := hccy 3 _ rfl
  clear hclx hMx hccx hfrx hcly hMy hccy hfry
  have fB : w.cell? ⟨gB, 0, none⟩ = some (.slice (some ⟨gr, 0, none⟩) xs.length c) := (blk_cell hB 0).trans rfl
  have fS : w.cell? ⟨gS, 0, none⟩ = some (.int .i64 st) := (blk_cell hS 0).trans rfl
  have fF : w.cell? ⟨gF, 0, none⟩ = some (.bool fd) := (blk_cell hF 0).trans rfl
  have HC := Aside0.mk hC
  have HR := Aside0.mk hR
  have HFF := Aside0.mk hF
  clear hB hS hF hR hC
  have FB := Aside0.mk fB
  have FS := Aside0.mk fS
  have FF := Aside0.mk fF
  have X0 := Aside0.mk x0
  have X1 := Aside0.mk x1
  have X2 := Aside0.mk x2
  have X3 := Aside0.mk x3
  have Y0 := Aside0.mk y0
  have Y1 := Aside0.mk y1
  have Y2 := Aside0.mk y2
  have Y3 := Aside0.mk y3
  have P1 := Aside0.mk p1
  have Q1 := Aside0.mk q1
  have P2 := Aside0.mk p2
  have Q2 := Aside0.mk q2
  replace p1 := eq_true p1
  replace q1 := eq_true q1
  replace p2 := eq_true p2
  replace q2 := eq_true q2
  have HB := Aside0.mk (Below.refl w.heap.size w)
  go_enter Try.func31, Try.ntmps31
  go_upto_region 1 with (first | ((with_reducible refine gate_dst (N := 9) rfl ?_); refine box_event ?hg (N := 9) ?hd (cs := #[.int .i64 0, .int .i64 0, .int .i64 0, .int .i64 0]) (t := 60) ?hr ?_; (case hd => rfl); (case hg => rfl); (case hr => first | (go_simp; done) | (go_simp; rfl)); intro g9 hg w10 hbox hb; have n1_ := Aside0.mk (show w.heap.size ≤ g9 from by rw [hg]; exact HB.out.size);  have n0_ := Aside0.mk (below_step HB.out hb); have n2_ := Aside0.mk hbox; clear HB; have HB := n0_; have BK9 := n2_; have GE9 := n1_; clear n0_ n1_ n2_ hb hbox hg; have hcz9_0 : w10.cell? ⟨g9, 0, none⟩ = some (.int .i64 0) := (blk_cell BK9.out 0).trans rfl; have hfz9_0 := blk_frozen BK9.out 0; have hcz9_1 : w10.cell? ⟨g9, 1, none⟩ = some (.int .i64 0) := (blk_cell BK9.out 1).trans rfl; have hfz9_1 := blk_frozen BK9.out 1; have hcz9_2 : w10.cell? ⟨g9, 2, none⟩ = some (.int .i64 0) := (blk_cell BK9.out 2).trans rfl; have hfz9_2 := blk_frozen BK9.out 2; have hcz9_3 : w10.cell? ⟨g9, 3, none⟩ = some (.int .i64 0) := (blk_cell BK9.out 3).trans rfl; have hfz9_3 := blk_frozen BK9.out 3; ) | ((with_reducible refine gate_store (t := 60) (p := 9) rfl ?_); refine store_event (t := 60) (p := 9) (v := ?vo9) (w1 := ((((w10.setCell ⟨g9, 0, none⟩ (.int .i64 (rd_T60 xs (Go.bits .andNot .i64 st a1)).f0)).setCell ⟨g9, 1, none⟩ (.int .i64 (rd_T60 xs (Go.bits .andNot .i64 st a1)).f1)).setCell ⟨g9, 2, none⟩ (.int .i64 (rd_T60 xs (Go.bits .andNot .i64 st a1)).f2)).setCell ⟨g9, 3, none⟩ (.int .i64 (rd_T60 xs (Go.bits .andNot .i64 st a1)).f3))) ?hg ?ho ?hn ?hr ?_; (case ho => rfl); (case hg => rfl); (case hn => rfl); (case hr => first | (go_simp; done) | (go_simp; rfl)); intro w11 hw9; have n0_ := Aside0.mk (show w11.heap[g9]? = some (.cells #[.int .i64 (rd_T60 xs (Go.bits .andNot .i64 st a1)).f0, .int .i64 (rd_T60 xs (Go.bits .andNot .i64 st a1)).f1, .int .i64 (rd_T60 xs (Go.bits .andNot .i64 st a1)).f2, .int .i64 (rd_T60 xs (Go.bits .andNot .i64 st a1)).f3] 60 (0, 0)) from by rw [hw9]; exact blk_put (blk_put (blk_put (blk_put BK9.out 0 _ rfl) 1 _ rfl) 2 _ rfl) 3 _ rfl); have n1_ := Aside0.mk (show Below w.heap.size w w11 from by rw [hw9]; exact below_set (below_set (below_set (below_set HB.out GE9.out) GE9.out) GE9.out) GE9.out); clear BK9 HB; have BK9 := n0_; have HB := n1_; clear n0_ n1_ hw9; clear fB fS fF x0 x1 x2 x3 y0 y1 y2 y3; have fB := (HB.out.cell (World.block_lt_of_cell? _ _ FB.out)).trans FB.out; have fS := (HB.out.cell (World.block_lt_of_cell? _ _ FS.out)).trans FS.out; have fF := (HB.out.cell (World.block_lt_of_cell? _ _ FF.out)).trans FF.out; have x0 := (HB.out.cell (World.block_lt_of_cell? _ _ X0.out)).trans X0.out; have x1 := (HB.out.cell (World.block_lt_of_cell? _ _ X1.out)).trans X1.out; have x2 := (HB.out.cell (World.block_lt_of_cell? _ _ X2.out)).trans X2.out; have x3 := (HB.out.cell (World.block_lt_of_cell? _ _ X3.out)).trans X3.out; have y0 := (HB.out.cell (World.block_lt_of_cell? _ _ Y0.out)).trans Y0.out; have y1 := (HB.out.cell (World.block_lt_of_cell? _ _ Y1.out)).trans Y1.out; have y2 := (HB.out.cell (World.block_lt_of_cell? _ _ Y2.out)).trans Y2.out; have y3 := (HB.out.cell (World.block_lt_of_cell? _ _ Y3.out)).trans Y3.out; have t9_0 : w11.cell? ⟨g9, 0, none⟩ = some (.int .i64 (rd_T60 xs (Go.bits .andNot .i64 st a1)).f0) := (blk_cell BK9.out 0).trans rfl; have t9_1 : w11.cell? ⟨g9, 1, none⟩ = some (.int .i64 (rd_T60 xs (Go.bits .andNot .i64 st a1)).f1) := (blk_cell BK9.out 1).trans rfl; have t9_2 : w11.cell? ⟨g9, 2, none⟩ = some (.int .i64 (rd_T60 xs (Go.bits .andNot .i64 st a1)).f2) := (blk_cell BK9.out 2).trans rfl; have t9_3 : w11.cell? ⟨g9, 3, none⟩ = some (.int .i64 (rd_T60 xs (Go.bits .andNot .i64 st a1)).f3) := (blk_cell BK9.out 3).trans rfl))
  go_upto_region 2 with (first | ((with_reducible refine gate_dst (N := 10) rfl ?_); refine box_event ?hg (N := 10) ?hd (cs := #[.int .i64 0, .int .i64 0, .int .i64 0, .int .i64 0]) (t := 60) ?hr ?_; (case hd => rfl); (case hg => rfl); (case hr => first | (go_simp; done) | (go_simp; rfl)); intro g10 hg w12 hbox hb; have n1_ := Aside0.mk (show w.heap.size ≤ g10 from by rw [hg]; exact HB.out.size);  have n0_ := Aside0.mk (below_step HB.out hb); have n2_ := Aside0.mk hbox; clear HB; have HB := n0_; have BK10 := n2_; have GE10 := n1_; clear n0_ n1_ n2_ hb hbox hg; have hcz10_0 : w12.cell? ⟨g10, 0, none⟩ = some (.int .i64 0) := (blk_cell BK10.out 0).trans rfl; have hfz10_0 := blk_frozen BK10.out 0; have hcz10_1 : w12.cell? ⟨g10, 1, none⟩ = some (.int .i64 0) := (blk_cell BK10.out 1).trans rfl; have hfz10_1 := blk_frozen BK10.out 1; have hcz10_2 : w12.cell? ⟨g10, 2, none⟩ = some (.int .i64 0) := (blk_cell BK10.out 2).trans rfl; have hfz10_2 := blk_frozen BK10.out 2; have hcz10_3 : w12.cell? ⟨g10, 3, none⟩ = some (.int .i64 0) := (blk_cell BK10.out 3).trans rfl; have hfz10_3 := blk_frozen BK10.out 3; ) | ((with_reducible refine gate_store (t := 60) (p := 10) rfl ?_); refine store_event (t := 60) (p := 10) (v := ?vo10) (w1 := ((((w12.setCell ⟨g10, 0, none⟩ (.int .i64 a0)).setCell ⟨g10, 1, none⟩ (.int .i64 a1)).setCell ⟨g10, 2, none⟩ (.int .i64 (wrap64 (a2 + (rd_T60 xs (Go.bits .andNot .i64 st a1)).f2)))).setCell ⟨g10, 3, none⟩ (.int .i64 (wrap64 (1 + (rd_T60 xs (Go.bits .andNot .i64 st a1)).f3))))) ?hg ?ho ?hn ?hr ?_; (case ho => rfl); (case hg => rfl); (case hn => rfl); (case hr => first | (go_simp; done) | (go_simp; rfl)); intro w13 hw10; have n0_ := Aside0.mk (show w13.heap[g10]? = some (.cells #[.int .i64 a0, .int .i64 a1, .int .i64 (wrap64 (a2 + (rd_T60 xs (Go.bits .andNot .i64 st a1)).f2)), .int .i64 (wrap64 (1 + (rd_T60 xs (Go.bits .andNot .i64 st a1)).f3))] 60 (0, 0)) from by rw [hw10]; exact blk_put (blk_put (blk_put (blk_put BK10.out 0 _ rfl) 1 _ rfl) 2 _ rfl) 3 _ rfl); have n1_ := Aside0.mk (show Below w.heap.size w w13 from by rw [hw10]; exact below_set (below_set (below_set (below_set HB.out GE10.out) GE10.out) GE10.out) GE10.out); clear BK10 HB; have BK10 := n0_; have HB := n1_; clear n0_ n1_ hw10; clear fB fS fF x0 x1 x2 x3 y0 y1 y2 y3; have fB := (HB.out.cell (World.block_lt_of_cell? _ _ FB.out)).trans FB.out; have fS := (HB.out.cell (World.block_lt_of_cell? _ _ FS.out)).trans FS.out; have fF := (HB.out.cell (World.block_lt_of_cell? _ _ FF.out)).trans FF.out; have x0 := (HB.out.cell (World.block_lt_of_cell? _ _ X0.out)).trans X0.out; have x1 := (HB.out.cell (World.block_lt_of_cell? _ _ X1.out)).trans X1.out; have x2 := (HB.out.cell (World.block_lt_of_cell? _ _ X2.out)).trans X2.out; have x3 := (HB.out.cell (World.block_lt_of_cell? _ _ X3.out)).trans X3.out; have y0 := (HB.out.cell (World.block_lt_of_cell? _ _ Y0.out)).trans Y0.out; have y1 := (HB.out.cell (World.block_lt_of_cell? _ _ Y1.out)).trans Y1.out; have y2 := (HB.out.cell (World.block_lt_of_cell? _ _ Y2.out)).trans Y2.out; have y3 := (HB.out.cell (World.block_lt_of_cell? _ _ Y3.out)).trans Y3.out; have t10_0 : w13.cell? ⟨g10, 0, none⟩ = some (.int .i64 a0) := (blk_cell BK10.out 0).trans rfl; have t10_1 : w13.cell? ⟨g10, 1, none⟩ = some (.int .i64 a1) := (blk_cell BK10.out 1).trans rfl; have t10_2 : w13.cell? ⟨g10, 2, none⟩ = some (.int .i64 (wrap64 (a2 + (rd_T60 xs (Go.bits .andNot .i64 st a1)).f2))) := (blk_cell BK10.out 2).trans rfl; have t10_3 : w13.cell? ⟨g10, 3, none⟩ = some (.int .i64 (wrap64 (1 + (rd_T60 xs (Go.bits .andNot .i64 st a1)).f3))) := (blk_cell BK10.out 3).trans rfl))
  (try simp only [Act.put, List.setIfInBounds_toArray, List.set_cons_zero, List.set_cons_succ])
  go_cut [58] (fun v58 wc => v58 = .bool (extB xs st fd a0 a1 a2) ∧ Aside0 (wc.heap[g10]? = some (.cells #[.int .i64 a0, .int .i64 a1, .int .i64 (wrap64 (a2 + (rd_T60 xs (Go.bits .andNot .i64 st a1)).f2)), .int .i64 (wrap64 (1 + (rd_T60 xs (Go.bits .andNot .i64 st a1)).f3))] 60 (0, 0))) ∧ Aside0 (Below w.heap.size w wc))
  case first =>
    cases fd with
    | false =>
      have V := Aside0.mk (show extB xs st false a0 a1 a2 = true from rfl)
      go_wp2
      repeat (go_quiet (fail); try go_wp2)
      go_meet
      case rel => exact ⟨by rw [V.out], (by repeat (first | exact ⟨BK10.out⟩ | exact BK10)), ⟨by repeat (first | exact HB.out | apply pw_below_drewN | apply below_drew1)⟩⟩
    | true =>
      by_cases h1 : wrap64 (a2 + (rd_T60 xs (Go.bits .andNot .i64 st a1)).f2) < (rd_T60 xs st).f2
      · have V := Aside0.mk (show extB xs st true a0 a1 a2 = true from by unfold extB; rw [show decide ((extT xs st a0 a1 a2).f2 < (rd_T60 xs st).f2) = true from decide_eq_true h1]; rfl)
        have d1 := decide_eq_true h1
        clear h1
        go_wp2
        repeat (go_quiet (fail); try go_wp2)
        go_meet
        case rel => exact ⟨by rw [V.out], (by repeat (first | exact ⟨BK10.out⟩ | exact BK10)), ⟨by repeat (first | exact HB.out | apply pw_below_drewN | apply below_drew1)⟩⟩
      · have e1 := show decide ((extT xs st a0 a1 a2).f2 < (rd_T60 xs st).f2) = false from decide_eq_false h1
        have d1 : decide (wrap64 (a2 + (rd_T60 xs (Go.bits .andNot .i64 st a1)).f2) < (rd_T60 xs st).f2) = false := decide_eq_false h1
        clear h1
        by_cases h2 : wrap64 (a2 + (rd_T60 xs (Go.bits .andNot .i64 st a1)).f2) = (rd_T60 xs st).f2
        · have e2 := show decide ((extT xs st a0 a1 a2).f2 = (rd_T60 xs st).f2) = true from decide_eq_true h2
          have d2 : (wrap64 (a2 + (rd_T60 xs (Go.bits .andNot .i64 st a1)).f2) == (rd_T60 xs st).f2) = true := beq_iff_eq.2 h2
          clear h2
          by_cases h3 : wrap64 (1 + (rd_T60 xs (Go.bits .andNot .i64 st a1)).f3) < (rd_T60 xs st).f3
          · have V := Aside0.mk (show extB xs st true a0 a1 a2 = true from by unfold extB; rw [e1, e2, show decide ((extT xs st a0 a1 a2).f3 < (rd_T60 xs st).f3) = true from decide_eq_true h3]; rfl)
            have d3 : decide (wrap64 (1 + (rd_T60 xs (Go.bits .andNot .i64 st a1)).f3) < (rd_T60 xs st).f3) = true := decide_eq_true h3
            clear h3 e1 e2
            go_wp2
            repeat (go_quiet (fail); try go_wp2)
            go_meet
            case rel => exact ⟨by rw [V.out], (by repeat (first | exact ⟨BK10.out⟩ | exact BK10)), ⟨by repeat (first | exact HB.out | apply pw_below_drewN | apply below_drew1)⟩⟩
          · have V := Aside0.mk (show extB xs st true a0 a1 a2 = false from by unfold extB; rw [e1, e2, show decide ((extT xs st a0 a1 a2).f3 < (rd_T60 xs st).f3) = false from decide_eq_false h3]; rfl)
            have d3 : decide (wrap64 (1 + (rd_T60 xs (Go.bits .andNot .i64 st a1)).f3) < (rd_T60 xs st).f3) = false := decide_eq_false h3
            clear h3 e1 e2
            go_wp2
            repeat (go_quiet (fail); try go_wp2)
            go_meet
            case rel => exact ⟨by rw [V.out], (by repeat (first | exact ⟨BK10.out⟩ | exact BK10)), ⟨by repeat (first | exact HB.out | apply pw_below_drewN | apply below_drew1)⟩⟩
        · have V := Aside0.mk (show extB xs st true a0 a1 a2 = false from by unfold extB; rw [e1, show decide ((extT xs st a0 a1 a2).f2 = (rd_T60 xs st).f2) = false from decide_eq_false h2]; rfl)
          have d2 : (wrap64 (a2 + (rd_T60 xs (Go.bits .andNot .i64 st a1)).f2) == (rd_T60 xs st).f2) = false := beq_eq_false_iff_ne.2 h2
          clear h2 e1
          go_wp2
          repeat (go_quiet (fail); try go_wp2)
          go_meet
          case rel => exact ⟨by rw [V.out], (by repeat (first | exact ⟨BK10.out⟩ | exact BK10)), ⟨by repeat (first | exact HB.out | apply pw_below_drewN | apply below_drew1)⟩⟩
  case rest =>
    obtain ⟨rfl, BK10, HB⟩ := hcut
    clear fB fS fF x0 x1 x2 x3 y0 y1 y2 y3
    have fB := (HB.out.cell (World.block_lt_of_cell? _ _ FB.out)).trans FB.out
    have fS := (HB.out.cell (World.block_lt_of_cell? _ _ FS.out)).trans FS.out
    have fF := (HB.out.cell (World.block_lt_of_cell? _ _ FF.out)).trans FF.out
    have x0 := (HB.out.cell (World.block_lt_of_cell? _ _ X0.out)).trans X0.out
    have x1 := (HB.out.cell (World.block_lt_of_cell? _ _ X1.out)).trans X1.out
    have x2 := (HB.out.cell (World.block_lt_of_cell? _ _ X2.out)).trans X2.out
    have x3 := (HB.out.cell (World.block_lt_of_cell? _ _ X3.out)).trans X3.out
    have y0 := (HB.out.cell (World.block_lt_of_cell? _ _ Y0.out)).trans Y0.out
    have y1 := (HB.out.cell (World.block_lt_of_cell? _ _ Y1.out)).trans Y1.out
    have y2 := (HB.out.cell (World.block_lt_of_cell? _ _ Y2.out)).trans Y2.out
    have y3 := (HB.out.cell (World.block_lt_of_cell? _ _ Y3.out)).trans Y3.out
    have t10_0 : wc.cell? ⟨g10, 0, none⟩ = some (.int .i64 a0) := (blk_cell BK10.out 0).trans rfl
    have t10_1 : wc.cell? ⟨g10, 1, none⟩ = some (.int .i64 a1) := (blk_cell BK10.out 1).trans rfl
    have t10_2 : wc.cell? ⟨g10, 2, none⟩ = some (.int .i64 (wrap64 (a2 + (rd_T60 xs (Go.bits .andNot .i64 st a1)).f2))) := (blk_cell BK10.out 2).trans rfl
    have t10_3 : wc.cell? ⟨g10, 3, none⟩ = some (.int .i64 (wrap64 (1 + (rd_T60 xs (Go.bits .andNot .i64 st a1)).f3))) := (blk_cell BK10.out 3).trans rfl
    have HGF := Aside0.mk ((HB.out.block gF (blk_lt HFF.out)).trans HFF.out)
    have fz := blk_frozen HGF.out 0
    obtain ⟨b, hb⟩ : ∃ b, b = extB xs st fd a0 a1 a2 := ⟨_, rfl⟩
    rw [← hb]
    have VB := Aside0.mk hb
    clear hb
    cases b with
    | true =>
      have HW := Aside0.mk (show extV xs st fd a0 a1 a2 = xs.set st.toNat (extT xs st a0 a1 a2) from if_pos VB.out.symm)
      have HRC := Aside0.mk (Kd.R_below HR.out HB.out)
      have NF := Aside0.mk (show gF ≠ gr from fun e => Kd.R_ne HRC.out HGF.out (by decide) (by rw [e]; rfl))
      obtain ⟨cy, hcly, hMy, hccy, hfry⟩ := Kd.R_elem HRC.out z60 st P2.out Q2.out
      obtain rfl := k60_openM hMy
      have HP := Aside0.mk (Kd.R_seg HRC.out st P2.out Q2.out (seg := [.int .i64 a0, .int .i64 a1, .int .i64 (wrap64 (a2 + (rd_T60 xs (Go.bits .andNot .i64 st a1)).f2)), .int .i64 (wrap64 (1 + (rd_T60 xs (Go.bits .andNot .i64 st a1)).f3))]) (j := 0) hcly hccy (show 4 ≤ 4 from by decide) (x' := extT xs st a0 a1 a2) (k60_mkM _ _ _ (extT xs st a0 a1 a2)) (fun _ hk => hk))
      have hz0 : wc.frozen? ⟨gr, st.toNat * 4, none⟩ = false := hfry 0
      have hz1 : wc.frozen? ⟨gr, st.toNat * 4 + 1, none⟩ = false := hfry 1
      have hz2 : wc.frozen? ⟨gr, st.toNat * 4 + 2, none⟩ = false := hfry 2
      have hz3 : wc.frozen? ⟨gr, st.toNat * 4 + 3, none⟩ = false := hfry 3
      clear hcly hMy hccy hfry
      go_wp2_with (first | ((with_reducible refine gate_store (t := 60) (p := 62) rfl ?_); refine store_event (t := 60) (p := 62) (v := ?vo62) (w1 := ((((wc.setCell ⟨gr, st.toNat * 4, none⟩ (.int .i64 a0)).setCell ⟨gr, st.toNat * 4 + 1, none⟩ (.int .i64 a1)).setCell ⟨gr, st.toNat * 4 + 2, none⟩ (.int .i64 (wrap64 (a2 + (rd_T60 xs (Go.bits .andNot .i64 st a1)).f2)))).setCell ⟨gr, st.toNat * 4 + 3, none⟩ (.int .i64 (wrap64 (1 + (rd_T60 xs (Go.bits .andNot .i64 st a1)).f3))))) ?hg ?ho ?hn ?hr ?_; (case ho => rfl); (case hg => rfl); (case hn => rfl); (case hr => first | (go_simp; done) | (go_simp; rfl)); intro w14 hw62; have n0_ := Aside0.mk (show Kd.R k60 60 w14 base (fun _ => True) (.slice (some ⟨gr, 0, none⟩) xs.length c) (xs.set st.toNat (extT xs st a0 a1 a2)) from by rw [hw62]; exact HP.out.1); have n1_ := Aside0.mk (show w14.heap[gF]? = some (.cells #[.bool fd] 4 (0, 0)) from by rw [hw62]; exact blk_far (blk_far (blk_far (blk_far HGF.out NF.out _) NF.out _) NF.out _) NF.out _); have n2_ := Aside0.mk (show Frm (fun k => k = gr ∨ k = gF) w w14 from by rw [hw62]; exact Frm.set (Frm.set (Frm.set (Frm.set (Frm.of_below HB.out) (.inl rfl) _ _) (.inl rfl) _ _) (.inl rfl) _ _) (.inl rfl) _ _); clear hw62; have HO14 := n0_; have HF14 := n1_; have FR14 := n2_; clear n0_ n1_ n2_; have cF14 : w14.cell? ⟨gF, 0, none⟩ = some (.bool fd) := (blk_cell HF14.out 0).trans rfl; have zF14 := blk_frozen HF14.out 0))
      (try simp only [Exit.inBlock, Exit.then])
      first | (refine bodyPost_ret (results_none rfl _ _ _) rfl ?_) | (refine bodyPost_end (results_none rfl _ _ _) rfl ?_)
      exact ⟨rfl, by rw [HW.out]; exact Kd.R_set HO14.out HF14.out (by decide) _ _, blk_put HF14.out 0 _ rfl, Frm.set FR14.out (.inr rfl) _ _⟩
    | false =>
      have HW := Aside0.mk (show extV xs st fd a0 a1 a2 = xs from if_neg (by rw [← VB.out]; decide))
      have HFD := Aside0.mk (show fd = true from by cases fd with | true => rfl | false => exact absurd VB.out (by unfold extB; simp))
      go_wp2
      (try simp only [Exit.inBlock, Exit.then])
      first | (refine bodyPost_ret (results_none rfl _ _ _) rfl ?_) | (refine bodyPost_end (results_none rfl _ _ _) rfl ?_)
      exact ⟨rfl, by rw [HW.out]; exact Kd.R_below HR.out HB.out, by rw [← HFD.out]; exact HGF.out, Frm.of_below HB.out⟩
theorem info60 : (Try.prog.info? 60).map (fun i => (i.zero, i.size, i.bytes)) = some (some (.agg #[(.int .i64 0), (.int .i64 0), (.int .i64 0), (.int .i64 0)]), 4, 32) := by kernel_rfl
theorem blk_ty {w : World} {g g' t t' : Nat} {cs cs' : Array Value} (h : w.heap[g]? = some (.cells cs t (0, 0))) (h' : w.heap[g']? = some (.cells cs' t' (0, 0))) (ht : t ≠ t') : g ≠ g' := fun e => by
  subst e
  rw [h] at h'
  injection h' with h'
  injection h' with _ h'
  exact ht h'
/-- What Best keeps in memory between its steps: the row of the tickets, and its variable in memory. -/
structure BSt (w0 w : World) (gB gr c n : Nat) (xs : List S60) : Prop where
  below : Below w0.heap.size w0 w
  box : w.heap[gB]? = some (.cells #[.slice (some ⟨gr, 0, none⟩) n c] 58 (0, 0))
  row : Kd.R k60 60 w w0.heap.size (fun _ => True) (.slice (some ⟨gr, 0, none⟩) n c) xs
  geB : w0.heap.size ≤ gB
  geR : w0.heap.size ≤ gr
theorem BSt.len {w0 w : World} {gB gr c n : Nat} {xs : List S60} (h : BSt w0 w gB gr c n xs) : n = xs.length := (Kd.R_reads' h.row).1
theorem BSt.step {w0 w w1 : World} {gB gr c n : Nat} {xs : List S60} (h : BSt w0 w gB gr c n xs) (hb : Below w.heap.size w w1) : BSt w0 w1 gB gr c n xs := ⟨below_step h.below hb, blk_below h.box hb, Kd.R_below h.row hb, h.geB, h.geR⟩
theorem BSt.put {w0 w : World} {gB gr c n : Nat} {xs : List S60} (h : BSt w0 w gB gr c n xs) {g t : Nat} {cs : Array Value} (hg : w.heap[g]? = some (.cells cs t (0, 0))) (h58 : 58 ≠ t) (h60 : ∀ q, q ∈ 60 :: k60.E → q ≠ t) (hge : w0.heap.size ≤ g) (j : Nat) (u : Value) : BSt w0 (w.setCell ⟨g, j, none⟩ u) gB gr c n xs :=
  ⟨below_set h.below hge, blk_far h.box (blk_ty h.box hg h58) u, Kd.R_set h.row hg h60 j u, h.geB, h.geR⟩
theorem BSt.ext {w0 w w1 : World} {gB gr c n gF : Nat} {xs ys : List S60} {cs : Array Value} (h : BSt w0 w gB gr c n xs) (hF : w.heap[gF]? = some (.cells cs 4 (0, 0))) (hge : w0.heap.size ≤ gF) (hf : Frm (fun k => k = gr ∨ k = gF) w w1) (hr : Kd.R k60 60 w1 w0.heap.size (fun _ => True) (.slice (some ⟨gr, 0, none⟩) n c) ys) : BSt w0 w1 gB gr c n ys :=
  ⟨Frm.below hf h.below (by rintro k (rfl | rfl); exact h.geR; exact hge), hf.at_ h.box (by rintro (e | e); exact Kd.R_ne h.row h.box (by decide) (by rw [e]; rfl); exact blk_ty h.box hF (by decide) e), hr, h.geB, h.geR⟩
theorem BSt.at_ {w0 w w1 : World} {gB gr c n gF g t : Nat} {xs : List S60} {cs cs' : Array Value} (h : BSt w0 w gB gr c n xs) (hF : w.heap[gF]? = some (.cells cs 4 (0, 0))) (hf : Frm (fun k => k = gr ∨ k = gF) w w1) (hg : w.heap[g]? = some (.cells cs' t (0, 0))) (h60 : 60 ≠ t) (h4 : t ≠ 4) : w1.heap[g]? = some (.cells cs' t (0, 0)) :=
  hf.at_ hg (by rintro (e | e); exact Kd.R_ne h.row hg h60 (by rw [e]; rfl); exact blk_ty hg hF h4 e)
/-- A row of numbers only this walk knows, after a call of the closure. -/
theorem BSt.ints {w0 w w1 : World} {gB gr c n gF base : Nat} {xs : List S60} {cs : Array Value} {v : Value} {l : List Int} (h : BSt w0 w gB gr c n xs) (hF : w.heap[gF]? = some (.cells cs 4 (0, 0))) (hf : Frm (fun k => k = gr ∨ k = gF) w w1) (hl : Kd.R (Kd.int .i64) 3 w base (fun _ => True) v l) : Kd.R (Kd.int .i64) 3 w1 base (fun _ => True) v l := by
  refine Kd.R_mono (Kd.R_step (Kd.R_tight rfl hl) fun k hk hlt => hf.block k hlt ?_) (fun _ _ => trivial)
  obtain ⟨cells, hc⟩ := Kd.R_typed hl k hk.symm
  rintro (e | e)
  · exact Kd.R_ne h.row hc (by decide) (by rw [e]; rfl)
  · exact blk_ty hc hF (by decide) e
theorem putO {w w1 : World} {gB gr cr n gS gF gO : Nat} {xs : List S60} {x : Int} {Av : Option Addr} {nv cv : Nat} {l : List Int} (HS : Aside0 (BSt w w1 gB gr cr n xs)) (BKS : Aside0 (w1.heap[gS]? = some (.cells #[.int .i64 x] 3 (0, 0)))) (BKF : Aside0 (w1.heap[gF]? = some (.cells #[.bool true] 4 (0, 0)))) (HM : Aside0 (Kd.R (Kd.int .i64) 3 w1 w.heap.size (fun _ => True) (.slice Av nv cv) l)) (BKO : Aside0 (w1.heap[gO]? = some (.cells #[.int .i64 0, .int .i64 0, .int .i64 0, .int .i64 0] 45 (0, 0)))) (GO : Aside0 (w.heap.size ≤ gO)) (a b c d : Int) :
    Aside0 (BSt w ((((w1.setCell ⟨gO, 0, none⟩ (.int .i64 a)).setCell ⟨gO, 1, none⟩ (.int .i64 b)).setCell ⟨gO, 2, none⟩ (.int .i64 c)).setCell ⟨gO, 3, none⟩ (.int .i64 d)) gB gr cr n xs) ∧ Aside0 (((((w1.setCell ⟨gO, 0, none⟩ (.int .i64 a)).setCell ⟨gO, 1, none⟩ (.int .i64 b)).setCell ⟨gO, 2, none⟩ (.int .i64 c)).setCell ⟨gO, 3, none⟩ (.int .i64 d)).heap[gS]? = some (.cells #[.int .i64 x] 3 (0, 0))) ∧ Aside0 (((((w1.setCell ⟨gO, 0, none⟩ (.int .i64 a)).setCell ⟨gO, 1, none⟩ (.int .i64 b)).setCell ⟨gO, 2, none⟩ (.int .i64 c)).setCell ⟨gO, 3, none⟩ (.int .i64 d)).heap[gF]? = some (.cells #[.bool true] 4 (0, 0))) ∧ Aside0 (Kd.R (Kd.int .i64) 3 ((((w1.setCell ⟨gO, 0, none⟩ (.int .i64 a)).setCell ⟨gO, 1, none⟩ (.int .i64 b)).setCell ⟨gO, 2, none⟩ (.int .i64 c)).setCell ⟨gO, 3, none⟩ (.int .i64 d)) w.heap.size (fun _ => True) (.slice Av nv cv) l) ∧ Aside0 (((((w1.setCell ⟨gO, 0, none⟩ (.int .i64 a)).setCell ⟨gO, 1, none⟩ (.int .i64 b)).setCell ⟨gO, 2, none⟩ (.int .i64 c)).setCell ⟨gO, 3, none⟩ (.int .i64 d)).heap[gO]? = some (.cells #[.int .i64 a, .int .i64 b, .int .i64 c, .int .i64 d] 45 (0, 0))) := by
  have s1 : ∀ {u : World} {cs : Array Value} (j : Nat) (v : Value), BSt w u gB gr cr n xs → u.heap[gO]? = some (.cells cs 45 (0, 0)) → BSt w (u.setCell ⟨gO, j, none⟩ v) gB gr cr n xs := fun j v h ho => h.put ho (by decide) (by decide) GO.out j v
  have b0 := BKO.out
  have b1 : (w1.setCell ⟨gO, 0, none⟩ (.int .i64 a)).heap[gO]? = some (.cells #[.int .i64 a, .int .i64 0, .int .i64 0, .int .i64 0] 45 (0, 0)) := blk_put b0 0 _ rfl
  have b2 : ((w1.setCell ⟨gO, 0, none⟩ (.int .i64 a)).setCell ⟨gO, 1, none⟩ (.int .i64 b)).heap[gO]? = some (.cells #[.int .i64 a, .int .i64 b, .int .i64 0, .int .i64 0] 45 (0, 0)) := blk_put b1 1 _ rfl
  have b3 : (((w1.setCell ⟨gO, 0, none⟩ (.int .i64 a)).setCell ⟨gO, 1, none⟩ (.int .i64 b)).setCell ⟨gO, 2, none⟩ (.int .i64 c)).heap[gO]? = some (.cells #[.int .i64 a, .int .i64 b, .int .i64 c, .int .i64 0] 45 (0, 0)) := blk_put b2 2 _ rfl
  have nS := blk_ty BKS.out b0 (by decide)
  have nF := blk_ty BKF.out b0 (by decide)
  exact ⟨⟨s1 3 _ (s1 2 _ (s1 1 _ (s1 0 _ HS.out b0) b1) b2) b3⟩, ⟨blk_far (blk_far (blk_far (blk_far BKS.out nS _) nS _) nS _) nS _⟩, ⟨blk_far (blk_far (blk_far (blk_far BKF.out nF _) nF _) nF _) nF _⟩,
    ⟨Kd.R_set (Kd.R_set (Kd.R_set (Kd.R_set HM.out b0 (by decide) _ _) b1 (by decide) _ _) b2 (by decide) _ _) b3 (by decide) _ _⟩, ⟨blk_put b3 3 _ rfl⟩⟩
mutual
def group_Best.l0 : Nat → List Int → List Int → List (S45) → Int → List (S60) → Option ((List (S43)) × Int × Int)
 | 0, _, _, _, _, _ => none
 | k + 1, x0, x1, x2, x11, x31 => if x11 < (x31.length : Int) then ((group_members.f k (Go.bits .and .i64 x11 (wrap64 (-x11)))).bind fun t136 => (if 0 < (t136.length : Int) then (if 0 ≤ (rd t136 0) then (if (rd t136 0) < (x1.length : Int) then (if extIn x31 x11 (Go.bits .and .i64 x11 (wrap64 (-x11))) then (group_Best.l1 k x0 x1 x2 x11 (Go.bits .and .i64 x11 (wrap64 (-x11))) (Go.bits .andNot .i64 x11 (Go.bits .and .i64 x11 (wrap64 (-x11)))) (extV x31 x11 false 0 (Go.bits .and .i64 x11 (wrap64 (-x11))) (rd x1 (rd t136 0)))) else (none)) else (none)) else (none)) else (none))) else (group_Best.l3 k ([] : List (S43)) (wrap64 ((x31.length : Int) - 1)) x31)
def group_Best.l1 : Nat → List Int → List Int → List (S45) → Int → Int → Int → List (S60) → Option ((List (S43)) × Int × Int)
 | 0, _, _, _, _, _, _, _ => none
 | k + 1, x0, x1, x2, x11, x12, x15, x31 => (group_members.f k (Go.bits .or .i64 x12 x15)).bind fun t142 => (group_Best.l2 k x0 x1 x2 x11 x12 x15 t142 x31 x2 (x2.length : Int) 0)
def group_Best.l2 : Nat → List Int → List Int → List (S45) → Int → Int → Int → List Int → List (S60) → List (S45) → Int → Int → Option ((List (S43)) × Int × Int)
 | 0, _, _, _, _, _, _, _, _, _, _, _ => none
 | k + 1, x0, x1, x2, x11, x12, x15, x16, x31, x66, x67, x68 => if x68 < x67 then (if 0 ≤ x68 then (if x68 < (x66.length : Int) then ((group_holds.f k ((rd_T45 x66 x68).f0) ((rd_T45 x66 x68).f1) ((rd_T45 x66 x68).f2) ((rd_T45 x66 x68).f3) x0 x16).bind fun t147 => (if t147 = true then (if extIn x31 x11 (Go.bits .or .i64 x12 x15) then (group_Best.l2 k x0 x1 x2 x11 x12 x15 x16 (extV x31 x11 true (rd_T45 x66 x68).f0 (Go.bits .or .i64 x12 x15) (rd_T45 x66 x68).f3) x66 x67 (wrap64 (x68 + 1))) else (none)) else (group_Best.l2 k x0 x1 x2 x11 x12 x15 x16 x31 x66 x67 (wrap64 (x68 + 1))))) else (none)) else (none)) else (if x15 = 0 then (group_Best.l0 k x0 x1 x2 (wrap64 (x11 + 1)) x31) else (group_Best.l1 k x0 x1 x2 x11 x12 (Go.bits .and .i64 (wrap64 (x15 - 1)) (Go.bits .andNot .i64 x11 x12)) x31))
def group_Best.l3 : Nat → List (S43) → Int → List (S60) → Option ((List (S43)) × Int × Int)
 | 0, _, _, _ => none
 | k + 1, x19, x20, x31 => if x20 > 0 then (if 0 ≤ x20 then (if x20 < (x31.length : Int) then ((group_members.f k ((rd_T60 x31 x20).f1)).bind fun t151 => (if x19.length < 4398046511104 then (group_Best.l3 k (x19 ++ [(⟨(rd_T60 x31 x20).f0, t151⟩ : S43)]) (Go.bits .andNot .i64 x20 ((rd_T60 x31 x20).f1)) x31) else (none))) else (none)) else (none)) else (if 0 ≤ (wrap64 ((x31.length : Int) - 1)) then (if (wrap64 ((x31.length : Int) - 1)) < (x31.length : Int) then (some (x19, (rd_T60 x31 (wrap64 ((x31.length : Int) - 1))).f2, 0)) else (none)) else (none))
end
def group_Best.f (k : Nat) (l0 : List Int) (l1 : List Int) (l2 : List (S45)) : Option ((List (S43)) × Int × Int) := (group_Right.f k l0 l1 l2).bind fun t130 => (if t130 = 0 then (if 0 < (shl .i64 1 (l0.length : Int)) then (if (shl .i64 1 (l0.length : Int) : Int).toNat ≤ 8796093022208 then (group_Best.l0 k l0 l1 l2 1 (List.replicate (shl .i64 1 (l0.length : Int) : Int).toNat z60)) else (none)) else (none)) else (some (([] : List (S43)), 0, t130)))
theorem group_Best.mono_l : ∀ k, (∀ y0 y1 y2 y3 y4, LeO (group_Best.l0 k y0 y1 y2 y3 y4) (group_Best.l0 (k + 1) y0 y1 y2 y3 y4)) ∧ (∀ y0 y1 y2 y3 y4 y5 y6, LeO (group_Best.l1 k y0 y1 y2 y3 y4 y5 y6) (group_Best.l1 (k + 1) y0 y1 y2 y3 y4 y5 y6)) ∧ (∀ y0 y1 y2 y3 y4 y5 y6 y7 y8 y9 y10, LeO (group_Best.l2 k y0 y1 y2 y3 y4 y5 y6 y7 y8 y9 y10) (group_Best.l2 (k + 1) y0 y1 y2 y3 y4 y5 y6 y7 y8 y9 y10)) ∧ (∀ y0 y1 y2, LeO (group_Best.l3 k y0 y1 y2) (group_Best.l3 (k + 1) y0 y1 y2))
 | 0 => ⟨fun _ _ _ _ _ r h => by simp [group_Best.l0] at h, fun _ _ _ _ _ _ _ r h => by simp [group_Best.l1] at h, fun _ _ _ _ _ _ _ _ _ _ _ r h => by simp [group_Best.l2] at h, fun _ _ _ r h => by simp [group_Best.l3] at h⟩
 | k + 1 => by
  obtain ⟨ih0, ih1, ih2, ih3⟩ := group_Best.mono_l k
  refine ⟨?_, ?_, ?_, ?_⟩
  ·intro y0 y1 y2 y3 y4
   unfold group_Best.l0
   repeat' first
   | (with_reducible exact ih0 _ _ _ _ _)
   | (with_reducible exact ih1 _ _ _ _ _ _ _)
   | (with_reducible exact ih2 _ _ _ _ _ _ _ _ _ _ _)
   | (with_reducible exact ih3 _ _ _)
   | (with_reducible exact group_Right.mono _ _ _ _)
   | (with_reducible exact group_holds.mono _ _ _ _ _ _ _)
   | (with_reducible exact group_members.mono _ _)
   | (with_reducible exact LeO.refl _)
   | (with_reducible exact LeO.none _)
   | (with_reducible refine LeO.ite ?_ ?_)
   | (with_reducible refine LeO.bind ?_ (fun _ => ?_))
   | exact ih0 _ _ _ _ _
   | exact ih1 _ _ _ _ _ _ _
   | exact ih2 _ _ _ _ _ _ _ _ _ _ _
   | exact ih3 _ _ _
   | exact group_Right.mono _ _ _ _
   | exact group_holds.mono _ _ _ _ _ _ _
   | exact group_members.mono _ _
   | exact LeO.none _
   | refine LeO.ite ?_ ?_
   | refine LeO.bind ?_ (fun _ => ?_)
  ·intro y0 y1 y2 y3 y4 y5 y6
   unfold group_Best.l1
   repeat' first
   | (with_reducible exact ih0 _ _ _ _ _)
   | (with_reducible exact ih1 _ _ _ _ _ _ _)
   | (with_reducible exact ih2 _ _ _ _ _ _ _ _ _ _ _)
   | (with_reducible exact ih3 _ _ _)
   | (with_reducible exact group_Right.mono _ _ _ _)
   | (with_reducible exact group_holds.mono _ _ _ _ _ _ _)
   | (with_reducible exact group_members.mono _ _)
   | (with_reducible exact LeO.refl _)
   | (with_reducible exact LeO.none _)
   | (with_reducible refine LeO.ite ?_ ?_)
   | (with_reducible refine LeO.bind ?_ (fun _ => ?_))
   | exact ih0 _ _ _ _ _
   | exact ih1 _ _ _ _ _ _ _
   | exact ih2 _ _ _ _ _ _ _ _ _ _ _
   | exact ih3 _ _ _
   | exact group_Right.mono _ _ _ _
   | exact group_holds.mono _ _ _ _ _ _ _
   | exact group_members.mono _ _
   | exact LeO.none _
   | refine LeO.ite ?_ ?_
   | refine LeO.bind ?_ (fun _ => ?_)
  ·intro y0 y1 y2 y3 y4 y5 y6 y7 y8 y9 y10
   unfold group_Best.l2
   repeat' first
   | (with_reducible exact ih0 _ _ _ _ _)
   | (with_reducible exact ih1 _ _ _ _ _ _ _)
   | (with_reducible exact ih2 _ _ _ _ _ _ _ _ _ _ _)
   | (with_reducible exact ih3 _ _ _)
   | (with_reducible exact group_Right.mono _ _ _ _)
   | (with_reducible exact group_holds.mono _ _ _ _ _ _ _)
   | (with_reducible exact group_members.mono _ _)
   | (with_reducible exact LeO.refl _)
   | (with_reducible exact LeO.none _)
   | (with_reducible refine LeO.ite ?_ ?_)
   | (with_reducible refine LeO.bind ?_ (fun _ => ?_))
   | exact ih0 _ _ _ _ _
   | exact ih1 _ _ _ _ _ _ _
   | exact ih2 _ _ _ _ _ _ _ _ _ _ _
   | exact ih3 _ _ _
   | exact group_Right.mono _ _ _ _
   | exact group_holds.mono _ _ _ _ _ _ _
   | exact group_members.mono _ _
   | exact LeO.none _
   | refine LeO.ite ?_ ?_
   | refine LeO.bind ?_ (fun _ => ?_)
  ·intro y0 y1 y2
   unfold group_Best.l3
   repeat' first
   | (with_reducible exact ih0 _ _ _ _ _)
   | (with_reducible exact ih1 _ _ _ _ _ _ _)
   | (with_reducible exact ih2 _ _ _ _ _ _ _ _ _ _ _)
   | (with_reducible exact ih3 _ _ _)
   | (with_reducible exact group_Right.mono _ _ _ _)
   | (with_reducible exact group_holds.mono _ _ _ _ _ _ _)
   | (with_reducible exact group_members.mono _ _)
   | (with_reducible exact LeO.refl _)
   | (with_reducible exact LeO.none _)
   | (with_reducible refine LeO.ite ?_ ?_)
   | (with_reducible refine LeO.bind ?_ (fun _ => ?_))
   | exact ih0 _ _ _ _ _
   | exact ih1 _ _ _ _ _ _ _
   | exact ih2 _ _ _ _ _ _ _ _ _ _ _
   | exact ih3 _ _ _
   | exact group_Right.mono _ _ _ _
   | exact group_holds.mono _ _ _ _ _ _ _
   | exact group_members.mono _ _
   | exact LeO.none _
   | refine LeO.ite ?_ ?_
   | refine LeO.bind ?_ (fun _ => ?_)
theorem group_Best.mono : ∀ a0 a1 a2 k, LeO (group_Best.f k a0 a1 a2) (group_Best.f (k + 1) a0 a1 a2) := by
 intro a0 a1 a2 k
 obtain ⟨ih0, ih1, ih2, ih3⟩ := group_Best.mono_l k
 unfold group_Best.f
 repeat' first
   | (with_reducible exact ih0 _ _ _ _ _)
   | (with_reducible exact ih1 _ _ _ _ _ _ _)
   | (with_reducible exact ih2 _ _ _ _ _ _ _ _ _ _ _)
   | (with_reducible exact ih3 _ _ _)
   | (with_reducible exact group_Right.mono _ _ _ _)
   | (with_reducible exact group_holds.mono _ _ _ _ _ _ _)
   | (with_reducible exact group_members.mono _ _)
   | (with_reducible exact LeO.refl _)
   | (with_reducible exact LeO.none _)
   | (with_reducible refine LeO.ite ?_ ?_)
   | (with_reducible refine LeO.bind ?_ (fun _ => ?_))
   | exact ih0 _ _ _ _ _
   | exact ih1 _ _ _ _ _ _ _
   | exact ih2 _ _ _ _ _ _ _ _ _ _ _
   | exact ih3 _ _ _
   | exact group_Right.mono _ _ _ _
   | exact group_holds.mono _ _ _ _ _ _ _
   | exact group_members.mono _ _
   | exact LeO.none _
   | refine LeO.ite ?_ ?_
   | refine LeO.bind ?_ (fun _ => ?_)
def group_Best.T28 : Bool × List (List Nat × List Nat) := (true, [([], []), ([], []), ([], []), ([1, 2], [1, 2]), ([3], [3]), ([4], [4]), ([], []), ([], []), ([6, 7], [6, 7]), ([8], [8]), ([9], [9]), ([10], [10]), ([5, 11], [5, 11]), ([12], [12]), ([0, 13, 11], [0, 13]), ([14, 14, 0, 1, 2, 3, 4, 5, 6, 7, 8, 9, 10, 11, 12, 13, 14], [0, 14])])
def group_Best.B28 : List Nat := [0, 0, 0, 6, 14, 30, 0, 0, 192, 448, 960, 1984, 4094, 8190, 16383, 32767]
theorem group_Best.tab28 : rtab .any (opsOf Try.f22 28) = group_Best.T28 := by kernel_rfl
theorem group_Best.bits28 : waitsOk group_Best.T28.2 group_Best.B28 = true := by kernel_rfl
def group_Best.T29 : Bool × List (List Nat × List Nat) := (true, [([], []), ([], []), ([], []), ([2], [2]), ([3], [3]), ([1, 4], [1, 4]), ([5], [5]), ([6], [6]), ([0, 0], [0]), ([7, 8, 0, 1, 2, 3, 4, 5, 6, 7, 8], [7]), ([9, 0, 1, 2, 3, 4, 5, 6, 7, 8, 9], [])])
def group_Best.B29 : List Nat := [0, 0, 0, 4, 12, 30, 62, 126, 1, 511, 1023]
theorem group_Best.tab29 : rtab .any (opsOf Try.f22 29) = group_Best.T29 := by kernel_rfl
theorem group_Best.bits29 : waitsOk group_Best.T29.2 group_Best.B29 = true := by kernel_rfl
set_option maxHeartbeats 8000000 in
set_option maxRecDepth 100000 in
theorem group_Best.calls (k : Nat) (A0 : Option Addr) (c0 : Nat) (l0 : List Int) (A1 : Option Addr) (c1 : Nat) (l1 : List Int) (A2 : Option Addr) (c2 : Nat) (l2 : List (S45)) (r1 : List (S43)) (r2 : Int) (r3 : Int) (w : World) (hr0 : Kd.C (Kd.int .i64) w A0 l0.length l0) (hc0 : l0.length ≤ c0) (hr1 : Kd.C (Kd.int .i64) w A1 l1.length l1) (hc1 : l1.length ≤ c1) (hr2 : Kd.C k45 w A2 l2.length l2) (hc2 : l2.length ≤ c2) (h : group_Best.f k l0 l1 l2 = some (r1, r2, r3)) :
  Calls Try.prog 22 #[.slice A0 l0.length c0, .slice A1 l1.length c1, .slice A2 l2.length c2] w fun e w' => ∃ v0_ : Value, e = .returned (.tuple #[v0_, .int .i64 r2, .int .i64 r3]) ∧ Kd.S k43 43 w' w.heap.size (fun _ => True) v0_ r1 ∧ Below w.heap.size w w' := by
 have hu45 := Try.underlying45
 have hu60 := Try.underlying60
 have hu43 := Try.underlying43
 have hu58 := Try.underlying58
 have HR0 := Aside0.mk hr0
 have HC0 := Aside0.mk hc0
 clear hr0 hc0
 have HR1 := Aside0.mk hr1
 have HC1 := Aside0.mk hc1
 clear hr1 hc1
 have HR2 := Aside0.mk hr2
 have HC2 := Aside0.mk hc2
 clear hr2 hc2
 have HB := Aside0.mk (Below.refl w.heap.size w)
 have H : ((group_Right.f k l0 l1 l2).bind fun t130 => (if t130 = 0 then (if 0 < (shl .i64 1 (l0.length : Int)) then (if (shl .i64 1 (l0.length : Int) : Int).toNat ≤ 8796093022208 then (group_Best.l0 k l0 l1 l2 1 (List.replicate (shl .i64 1 (l0.length : Int) : Int).toNat z60)) else (none)) else (none)) else (some (([] : List (S43)), 0, t130)))) = some (r1, r2, r3) := h
 clear h
 replace H := Option.bind_eq_some_iff.mp H
 obtain ⟨t130, A40, H⟩ := H
 replace H : (if t130 = 0 then (if 0 < (shl .i64 1 (l0.length : Int)) then (if (shl .i64 1 (l0.length : Int) : Int).toNat ≤ 8796093022208 then (group_Best.l0 k l0 l1 l2 1 (List.replicate (shl .i64 1 (l0.length : Int) : Int).toNat z60)) else (none)) else (none)) else (some (([] : List (S43)), 0, t130))) = some (r1, r2, r3) := H
 have A4 := Aside0.mk A40
 clear A40
 by_cases c5 : t130 = 0
 ·rw [if_pos c5] at H
  have c5b0 : (t130 == 0) = true := beq_iff_eq.mpr c5
  have c5b1 : (t130 != 0) = false := bne_eq_false_iff_eq.mpr c5
  clear c5
  obtain ⟨ji6, hji6⟩ : ∃ j_ : Int, (shl .i64 1 (l0.length : Int)) = j_ := ⟨_, rfl⟩
  replace H : (if 0 < (ji6) then (if (ji6 : Int).toNat ≤ 8796093022208 then (group_Best.l0 k l0 l1 l2 1 (List.replicate (ji6 : Int).toNat z60)) else (none)) else (none)) = some (r1, r2, r3) := by first | (rw [hji6] at H; exact H) | (simp only [hji6] at H ⊢; exact H)
  (try rw [hji6] at A4)
  have hji6_ : (IntKind.i64.wrap (1 * 2 ^ min (l0.length : Int).toNat 64)) = ji6 := hji6
  have hji6z : (l0.length : Int) ≤ 64 → (IntKind.i64.wrap (1 * 2 ^ (l0.length : Int).toNat)) = ji6 := shl_small hji6
  have hji6p : (IntKind.i64.wrap (1 * 2 ^ min l0.length 64)) = ji6 := hji6_
  have hji6q : (l0.length : Int) ≤ 64 → (IntKind.i64.wrap (1 * 2 ^ l0.length)) = ji6 := hji6z
  have hji6r : (IntKind.i64.wrap (2 ^ min l0.length 64)) = ji6 := by have h_ := hji6p; rw [Int.one_mul] at h_; exact h_
  have hji6s : (l0.length : Int) ≤ 64 → (IntKind.i64.wrap (2 ^ l0.length)) = ji6 := fun hle_ => by have h_ := hji6q hle_; rw [Int.one_mul] at h_; exact h_
  have hji6u : (IntKind.i64.wrap (2 ^ min (l0.length : Int).toNat 64)) = ji6 := by have h_ := hji6_; rw [Int.one_mul] at h_; exact h_
  have hji6v : (l0.length : Int) ≤ 64 → (IntKind.i64.wrap (2 ^ (l0.length : Int).toNat)) = ji6 := fun hle_ => by have h_ := hji6z hle_; rw [Int.one_mul] at h_; exact h_
  have hji6y : (wrap64 (1 * 2 ^ min (l0.length : Int).toNat 64)) = ji6 := (i64_w _).symm.trans hji6_
  have hji6x : (l0.length : Int) ≤ 64 → (wrap64 (1 * 2 ^ (l0.length : Int).toNat)) = ji6 := fun h_ => (i64_w _).symm.trans (hji6z h_)
  by_cases c7 : 0 < (ji6)
  ·rw [if_pos c7] at H
   have C7 := Aside0.mk c7
   have c7b0 := eq_true (Int.le_of_lt c7)
   have c7b1 : decide (0 ≤ (ji6)) = true := decide_eq_true (Int.le_of_lt c7)
   clear c7
   by_cases c8 : (ji6 : Int).toNat ≤ 8796093022208
   ·rw [if_pos c8] at H
    have c8b0 := eq_true c8
    have c8b1 : decide ((ji6 : Int).toNat ≤ 8796093022208) = true := decide_eq_true c8
    clear c8
    obtain ⟨y131, hy131⟩ : ∃ y_ : List (S60), y_ = (List.replicate (ji6 : Int).toNat z60) := ⟨_, rfl⟩
    replace H : (group_Best.l0 k l0 l1 l2 1 y131) = some (r1, r2, r3) := by first | (rw [hy131]; with_reducible exact H) | (have H2_ := (Option.bind_some _ _).symm.trans H; rw [hy131]; with_reducible exact H2_) | (have H2_ := (Option.bind_some _ _).symm.trans H; with_reducible exact H2_) | with_reducible exact H | (rw [hy131]; exact H) | exact H
    have Ny131 := Aside0.mk hy131
    clear hy131
    have H' := Aside0.mk H
    clear H
    go_enter Try.func22, Try.ntmps22
    have PL := Aside0.mk (show 0 < y131.length from by rw [Ny131.out, List.length_replicate]; have := C7.out; omega)
    go_wp2_with (first | ((with_reducible refine gate_callee (f := 12) rfl ?_); refine goesL_ (some 24) rfl rfl Try.func12 (by kernel_rfl) rfl #[.slice A0 l0.length c0, .slice A1 l1.length c1, .slice A2 l2.length c2] rfl (by (try simp only [List.map_toArray, List.map_cons, List.map_nil]); first | done | rfl | (simp only [List.length_drop, List.length_take]; rfl)) ?_; (with_reducible refine (group_Right.calls k _ _ l0 _ _ l1 _ _ l2 t130 _ ?side1 ?side2 ?side3 ?side4 ?side5 ?side6 A4.out).mono ?_); (case side1 => repeat (first | exact HR0.out | (with_reducible refine Kd.C_alloc ?_ _) | (with_reducible refine Kd.C_drewN ?_ _) | (with_reducible refine Kd.C_drew ?_))); (case side2 => exact HC0.out); (case side3 => repeat (first | exact HR1.out | (with_reducible refine Kd.C_alloc ?_ _) | (with_reducible refine Kd.C_drewN ?_ _) | (with_reducible refine Kd.C_drew ?_))); (case side4 => exact HC1.out); (case side5 => repeat (first | exact HR2.out | (with_reducible refine Kd.C_alloc ?_ _) | (with_reducible refine Kd.C_drewN ?_ _) | (with_reducible refine Kd.C_drew ?_))); (case side6 => exact HC2.out); rintro e w9 ⟨rfl, hb⟩; refine ⟨_, rfl, ?_⟩; have n0_ := Aside0.mk (below_step (by repeat (first | (with_reducible first | exact HB.out | apply below_alloc | apply pw_below_drewN | apply below_drew1) | exact HB.out)) hb); clear HB; have HB := n0_; clear n0_; (try clear hb); (try clear hb2); (try clear hk); (try clear hi)) | ((with_reducible refine gate_dst (N := 31) rfl ?_); refine Kd.R_make k60 _ 60 rfl (N := 31) rfl 58 _ _ rfl ji6 rfl rfl Try.underlying58 (.agg #[(.int .i64 0), (.int .i64 0), (.int .i64 0), (.int .i64 0)]) 32 info60 rfl (by decide) (by omega) z60 (ok := fun _ => True) (okp := fun _ => True) (k60_mkM _ _ _ z60 ) (fun _ hk => hk) trivial (of_decide_eq_true (by first | (with_reducible assumption) | assumption)) (Nat.le_trans (Nat.mul_le_mul_right _ (of_decide_eq_true (by first | (with_reducible assumption) | assumption) : ji6.toNat ≤ 8796093022208)) (by omega)) (Below.refl _ _) (Nat.le_refl _) ?_; intro v132 w10 ho11 hb hg_ hnew_; clear hg_ hnew_; (first | rw [← Ny131.out] at ho11 | (simp only [Int.reduceToNat] at ho11; rw [← Ny131.out] at ho11)); have n0_ := Aside0.mk (Kd.R_lower ho11 (below_size (by repeat (first | (with_reducible first | exact HB.out | apply below_alloc | apply pw_below_drewN | apply below_drew1) | exact HB.out)))); have n1_ := Aside0.mk (below_step (by repeat (first | (with_reducible first | exact HB.out | apply below_alloc | apply pw_below_drewN | apply below_drew1) | exact HB.out)) hb); clear HB; have HO133 := n0_; have HB := n1_; clear n0_ n1_; clear hb ho11; obtain ⟨gr, cr, er_, gb_, _, _⟩ := Kd.R_form HO133.out PL.out; subst er_; have GR := Aside0.mk gb_; clear gb_) | ((with_reducible refine gate_dst (N := 10) rfl ?_); refine box_event ?hg (N := 10) ?hd (cs := #[.slice none 0 0]) (t := 58) ?hr ?_; (case hd => rfl); (case hg => rfl); (case hr => first | (go_simp; done) | (go_simp; rfl)); intro gB hg w12 hbox hb; have g0_ := Aside0.mk (show w.heap.size ≤ gB from by rw [hg]; exact HB.out.size); have n0_ := Aside0.mk (Kd.R_below HO133.out hb); have n1_ := Aside0.mk (below_step HB.out hb); have BKB := Aside0.mk hbox; clear HO133 HB hbox hb hg; have HO133 := n0_; have HB := n1_; have GBKB := g0_; clear n0_ n1_ g0_; have cz_ := (show w12.cell? ⟨gB, 0, none⟩ = some (.slice none 0 0) from (blk_cell BKB.out 0).trans rfl); have fz_ := blk_frozen BKB.out 0) | ((with_reducible refine gate_store (t := 58) (p := 10) rfl ?_); refine store_event (t := 58) (p := 10) (v := ?vow13) (w1 := w12.setCell ⟨gB, 0, none⟩ (.slice (some ⟨gr, 0, none⟩) y131.length cr)) ?hg ?ho ?hn ?hr ?_; (case ho => rfl); (case hg => rfl); (case hn => rfl); (case hr => first | (go_simp; done) | (go_simp; rfl)); intro w13 hw_; have HS := Aside0.mk (show BSt w w13 gB gr cr y131.length y131 from by rw [hw_]; exact ⟨below_set HB.out GBKB.out, blk_put BKB.out 0 _ rfl, Kd.R_set HO133.out BKB.out (by decide) _ _, GBKB.out, GR.out⟩); clear hw_ cz_ fz_ HB HO133 BKB) | ((with_reducible refine gate_dst (N := 11) rfl ?_); refine box_event ?hg (N := 11) ?hd (cs := #[.int .i64 0]) (t := 3) ?hr ?_; (case hd => rfl); (case hg => rfl); (case hr => first | (go_simp; done) | (go_simp; rfl)); intro gS hg w14 hbox hb; have g0_ := Aside0.mk (show w.heap.size ≤ gS from by rw [hg]; exact HS.out.below.size); have a0_ := Aside0.mk hbox; have n0_ := Aside0.mk (HS.out.step hb); clear HS; have HS := n0_; clear n0_; have BKS := a0_; have GBKS := g0_; clear a0_ g0_ hb hbox hg; have cz_ := (show w14.cell? ⟨gS, 0, none⟩ = some (.int .i64 0) from (blk_cell BKS.out 0).trans rfl); have fz_ := blk_frozen BKS.out 0; ) | ((with_reducible refine gate_store (t := 3) (p := 11) rfl ?_); refine store_event (t := 3) (p := 11) (v := ?vow15) (w1 := w14.setCell ⟨gS, 0, none⟩ (.int .i64 1)) ?hg ?ho ?hn ?hr ?_; (case ho => rfl); (case hg => rfl); (case hn => rfl); (case hr => first | (go_simp; done) | (go_simp; rfl)); intro w15 hw_; have b_ := Aside0.mk (show w15.heap[gS]? = some (.cells #[.int .i64 1] 3 (0, 0)) from by rw [hw_]; exact blk_put BKS.out 0 _ rfl); have n0_ := Aside0.mk (show BSt w w15 _ _ _ _ _ from by rw [hw_]; exact HS.out.put BKS.out (by decide) (by decide) GBKS.out _ _); clear hw_ BKS HS; have BKS := b_; clear b_; have HS := n0_; clear n0_; clear cz_ fz_; ))
    have nn_ : ∃ n, n = y131.length := ⟨_, rfl⟩
    obtain ⟨n, hn_⟩ := nn_; rw [← hn_] at HS; clear hn_
    (try simp only [Act.put, List.setIfInBounds_toArray, List.set_cons_zero, List.set_cons_succ])
    go_loopg [11] k (fun kq v11 w' => ∃ (x11_1 : Int) (x31_1 : List (S60)) (gS : Nat), v11 = .pointer (some ⟨gS, 0, none⟩) ∧ Aside0 (group_Best.l0 kq l0 l1 l2 x11_1 x31_1 = some (r1, r2, r3)) ∧ Aside0 (kq ≤ k) ∧ Aside0 (BSt w w' gB gr cr n x31_1) ∧ Aside0 (w'.heap[gS]? = some (.cells #[.int .i64 x11_1] 3 (0, 0))) ∧ Aside0 (w.heap.size ≤ gS))
    case atStart => exact ⟨1, y131, gS, rfl, H', ⟨Nat.le_refl _⟩, ⟨HS.out⟩, ⟨BKS.out⟩, ⟨GBKS.out⟩⟩
    case round =>
     clear H'
     obtain ⟨x11_1, x31_1, gS, rfl, HA, HK1, HS, BKS, GBKS⟩ := hrel
     have hn_ := HS.out.len
     subst hn_
     cases gk with
     | zero => exact absurd HA.out (by simp [group_Best.l0])
     | succ k1 =>
      have H := HA.out
      clear HA
      simp only [group_Best.l0] at H
      have fS : wr.cell? ⟨gS, 0, none⟩ = some (.int .i64 x11_1) := (blk_cell BKS.out 0).trans rfl
      have fB : wr.cell? ⟨gB, 0, none⟩ = some (.slice (some ⟨gr, 0, none⟩) x31_1.length cr) := (blk_cell HS.out.box 0).trans rfl
      by_cases c13 : x11_1 < (x31_1.length : Int)
      ·rw [if_pos c13] at H
       have c13b : decide (x11_1 < (x31_1.length : Int)) = true := decide_eq_true c13
       replace H := Option.bind_eq_some_iff.mp H
       obtain ⟨t136, A140, H⟩ := H
       have A14 := Aside0.mk A140
       clear A140
       by_cases c15 : 0 < (t136.length : Int)
       ·rw [if_pos c15] at H
        have c15b : decide (0 < (t136.length : Int)) = true := decide_eq_true c15
        have c15n : decide (0 < t136.length) = true := decide_eq_true (by omega)
        by_cases c16 : 0 ≤ (rd t136 0)
        ·rw [if_pos c16] at H
         have c16b : decide (0 ≤ (rd t136 0)) = true := decide_eq_true c16
         by_cases c17 : (rd t136 0) < (l1.length : Int)
         ·rw [if_pos c17] at H
          have c17b : decide ((rd t136 0) < (l1.length : Int)) = true := decide_eq_true c17
          by_cases c18 : extIn x31_1 x11_1 (Go.bits .and .i64 x11_1 (wrap64 (-x11_1)))
          ·rw [if_pos c18] at H
           have H' := Aside0.mk H
           clear H
           go_wp2_with (first | ((with_reducible refine gate_dst (N := 13) rfl ?_); refine box_event ?hg (N := 13) ?hd (cs := #[.bool false]) (t := 4) ?hr ?_; (case hd => rfl); (case hg => rfl); (case hr => first | (go_simp; done) | (go_simp; rfl)); intro gF hg w21 hbox hb; have g0_ := Aside0.mk (show w.heap.size ≤ gF from by rw [hg]; exact HS.out.below.size); have a0_ := Aside0.mk hbox; have n0_ := Aside0.mk (HS.out.step hb); have n1_ := Aside0.mk (blk_below BKS.out hb); clear HS BKS; have HS := n0_; have BKS := n1_; clear n0_ n1_; have BKF := a0_; have GBKF := g0_; clear a0_ g0_ hb hbox hg; (try clear fB); have fB : w21.cell? ⟨gB, 0, none⟩ = some (.slice (some ⟨gr, 0, none⟩) x31_1.length cr) := (blk_cell HS.out.box 0).trans rfl; (try clear fS); have fS : w21.cell? ⟨gS, 0, none⟩ = some (.int .i64 x11_1) := (blk_cell BKS.out 0).trans rfl; have cz_ : w21.cell? ⟨gF, 0, none⟩ = some (.bool false) := (blk_cell BKF.out 0).trans rfl; have fz_ := blk_frozen BKF.out 0; ) | ((with_reducible refine gate_store (t := 4) (p := 13) rfl ?_); refine store_event (t := 4) (p := 13) (v := ?vow22) (w1 := w21.setCell ⟨gF, 0, none⟩ (.bool false)) ?hg ?ho ?hn ?hr ?_; (case ho => rfl); (case hg => rfl); (case hn => rfl); (case hr => first | (go_simp; done) | (go_simp; rfl)); intro w22 hw_; have b_ := Aside0.mk (show w22.heap[gF]? = some (.cells #[.bool false] 4 (0, 0)) from by rw [hw_]; exact blk_put BKF.out 0 _ rfl); have n0_ := Aside0.mk (show BSt w w22 _ _ _ _ _ from by rw [hw_]; exact HS.out.put BKF.out (by decide) (by decide) GBKF.out _ _); have n1_ := Aside0.mk (show w22.heap[_]? = some (Obj.cells _ _ (0, 0)) from by rw [hw_]; exact blk_far (p := ⟨gF, 0, none⟩) BKS.out (blk_ty BKS.out BKF.out (by decide)) _); clear hw_ BKF HS BKS; have BKF := b_; clear b_; have HS := n0_; have BKS := n1_; clear n0_ n1_; clear cz_ fz_; (try clear fB); have fB : w22.cell? ⟨gB, 0, none⟩ = some (.slice (some ⟨gr, 0, none⟩) x31_1.length cr) := (blk_cell HS.out.box 0).trans rfl; (try clear fS); have fS : w22.cell? ⟨gS, 0, none⟩ = some (.int .i64 x11_1) := (blk_cell BKS.out 0).trans rfl; ) | ((with_reducible refine gate_callee (f := 32) rfl ?_); refine goesL_ (some 47) rfl rfl Try.func32 (by kernel_rfl) rfl #[.int .i64 (Go.bits .and .i64 x11_1 (wrap64 (-x11_1)))] rfl (by (try simp only [List.map_toArray, List.map_cons, List.map_nil]); first | done | rfl) ?_; (with_reducible refine (group_members.calls k1 (Go.bits .and .i64 x11_1 (wrap64 (-x11_1))) t136 _ A14.out).mono ?_); rintro e w23 ⟨v137, rfl, ho0, hb⟩; refine ⟨_, rfl, ?_⟩; have m_ := Aside0.mk (Kd.R_lower ho0 HS.out.below.size); have n0_ := Aside0.mk (HS.out.step hb); have n1_ := Aside0.mk (blk_below BKS.out hb); have n2_ := Aside0.mk (blk_below BKF.out hb); clear HS BKS BKF; have HS := n0_; have BKS := n1_; have BKF := n2_; clear n0_ n1_ n2_; have HM := m_; clear m_ hb ho0; obtain ⟨Av137, cv137, ev137⟩ := Kd.R_slice HM.out; subst ev137; (try clear fB); have fB : w23.cell? ⟨gB, 0, none⟩ = some (.slice (some ⟨gr, 0, none⟩) x31_1.length cr) := (blk_cell HS.out.box 0).trans rfl; (try clear fS); have fS : w23.cell? ⟨gS, 0, none⟩ = some (.int .i64 x11_1) := (blk_cell BKS.out 0).trans rfl; have qi_ : (0 < t136.length) = True := eq_true (by omega); have p139 : 0 ≤ (0 : Int) := (by omega); obtain ⟨ad139, e139, hx139⟩ := Kd.at_int (Kd.R_reads' HM.out).2.2 0 p139 c15; cases e139; (try rw [show ((0 : Int)).toNat = 0 from rfl] at hx139); (try rw [Addr.add_zero'] at hx139); replace p139 := eq_true p139; have q139 := eq_true c15; obtain ⟨ad140, e140, hx140⟩ := Kd.at_int HR1.out (rd t136 0) c16 c17; cases e140; replace hx140 := (HS.out.below.cell (World.block_lt_of_cell? w _ hx140)).trans hx140; have p140 := eq_true c16; have q140 := eq_true c17; ) | (go_at_call 31; (with_reducible refine (ext31 0 (Go.bits .and .i64 x11_1 (wrap64 (-x11_1))) (rd l1 (rd t136 0)) gB gS gF gr cr x11_1 false x31_1 w.heap.size _ HS.out.box BKS.out BKF.out HS.out.row c18).mono ?_); rintro e w24 ⟨rfl, hr_, hf_, hm_⟩; have n0_ := Aside0.mk (HS.out.ext BKF.out GBKF.out hm_ hr_); have n1_ := Aside0.mk (HS.out.at_ BKF.out hm_ BKS.out (by decide) (by decide)); have f_ := Aside0.mk hf_; clear hr_ hf_ hm_ BKF HS BKS; have BKF := f_; clear f_; have HS := n0_; have BKS := n1_; clear n0_ n1_; clear HM; (try clear fB); have fB : w24.cell? ⟨gB, 0, none⟩ = some (.slice (some ⟨gr, 0, none⟩) x31_1.length cr) := (blk_cell HS.out.box 0).trans rfl; (try clear fS); have fS : w24.cell? ⟨gS, 0, none⟩ = some (.int .i64 x11_1) := (blk_cell BKS.out 0).trans rfl; ))
           (try simp only [Act.put, List.setIfInBounds_toArray, List.set_cons_zero, List.set_cons_succ])
           go_loopg [15] k1 (fun kq v15 w' => ∃ (x15_2 : Int) (x31_2 : List (S60)), v15 = .int .i64 x15_2 ∧ Aside0 (group_Best.l1 kq l0 l1 l2 x11_1 (Go.bits .and .i64 x11_1 (wrap64 (-x11_1))) x15_2 x31_2 = some (r1, r2, r3)) ∧ Aside0 (kq ≤ k1) ∧ Aside0 (BSt w w' gB gr cr x31_1.length x31_2) ∧ Aside0 (w'.heap[gS]? = some (.cells #[.int .i64 x11_1] 3 (0, 0))) ∧ Aside0 (w'.heap[gF]? = some (.cells #[.bool true] 4 (0, 0))))
           case atStart => exact ⟨(Go.bits .andNot .i64 x11_1 (Go.bits .and .i64 x11_1 (wrap64 (-x11_1)))), _, rfl, H', ⟨Nat.le_refl _⟩, HS, BKS, BKF⟩
           case round =>
            clear H'
            obtain ⟨x15_2, x31_2, rfl, HA, HK2, HS, BKS, BKF⟩ := hrel
            cases gk with
            | zero => exact absurd HA.out (by simp [group_Best.l1])
            | succ k2 =>
             have H := HA.out
             clear HA
             simp only [group_Best.l1] at H
             replace H := Option.bind_eq_some_iff.mp H
             obtain ⟨t137, A440, H⟩ := H
             have A44 := Aside0.mk A440
             clear A440
             have H' := Aside0.mk H
             clear H
             go_wp2_with (first | ((with_reducible refine gate_callee (f := 32) rfl ?_); refine goesL_ (some 65) rfl rfl Try.func32 (by kernel_rfl) rfl #[.int .i64 (Go.bits .or .i64 (Go.bits .and .i64 x11_1 (wrap64 (-x11_1))) x15_2)] rfl (by (try simp only [List.map_toArray, List.map_cons, List.map_nil]); first | done | rfl) ?_; (with_reducible refine (group_members.calls k2 (Go.bits .or .i64 (Go.bits .and .i64 x11_1 (wrap64 (-x11_1))) x15_2) t137 _ A44.out).mono ?_); rintro e w31 ⟨v138, rfl, ho0, hb⟩; refine ⟨_, rfl, ?_⟩; have m_ := Aside0.mk (Kd.R_lower ho0 HS.out.below.size); have n0_ := Aside0.mk (HS.out.step hb); have n1_ := Aside0.mk (blk_below BKS.out hb); have n2_ := Aside0.mk (blk_below BKF.out hb); clear HS BKS BKF; have HS := n0_; have BKS := n1_; have BKF := n2_; clear n0_ n1_ n2_; have HM := m_; clear m_ hb ho0; obtain ⟨Av138, cv138, ev138⟩ := Kd.R_slice HM.out; subst ev138; ))
             (try simp only [Act.put, List.setIfInBounds_toArray, List.set_cons_zero, List.set_cons_succ])
             go_loopg [68] k2 (fun kq v68 w' => ∃ (x31_3 : List (S60)) (x68_3 : Int), v68 = .int .i64 x68_3 ∧ Aside0 (group_Best.l2 kq l0 l1 l2 x11_1 (Go.bits .and .i64 x11_1 (wrap64 (-x11_1))) x15_2 t137 x31_3 l2 (l2.length : Int) x68_3 = some (r1, r2, r3)) ∧ Aside0 (kq ≤ k2) ∧ Aside0 (BSt w w' gB gr cr x31_1.length x31_3) ∧ Aside0 (w'.heap[gS]? = some (.cells #[.int .i64 x11_1] 3 (0, 0))) ∧ Aside0 (w'.heap[gF]? = some (.cells #[.bool true] 4 (0, 0))) ∧ Aside0 (Kd.R (Kd.int .i64) 3 w' w.heap.size (fun _ => True) (.slice Av138 t137.length cv138) t137))
             case atStart => exact ⟨_, 0, rfl, H', ⟨Nat.le_refl _⟩, HS, BKS, BKF, HM⟩
             case round =>
              clear H'
              obtain ⟨x31_3, x68_3, rfl, HA, HK3, HS, BKS, BKF, HM⟩ := hrel
              cases gk with
              | zero => exact absurd HA.out (by simp [group_Best.l2])
              | succ k3 =>
               have H := HA.out
               clear HA
               simp only [group_Best.l2] at H
               have HN3 := Aside0.mk HS.out.len
               have fS : wr.cell? ⟨gS, 0, none⟩ = some (.int .i64 x11_1) := (blk_cell BKS.out 0).trans rfl
               by_cases c45 : x68_3 < (l2.length : Int)
               ·rw [if_pos c45] at H
                have c45b : decide (x68_3 < (l2.length : Int)) = true := decide_eq_true c45
                by_cases c46 : 0 ≤ x68_3
                ·rw [if_pos c46] at H
                 have c46b : decide (0 ≤ x68_3) = true := decide_eq_true c46
                 rw [if_pos c45] at H
                 replace H := Option.bind_eq_some_iff.mp H
                 obtain ⟨t142, A470, H⟩ := H
                 have A47 := Aside0.mk A470
                 clear A470
                 obtain ⟨ad2, e2_, x2a, x2b, x2c, x2d⟩ := at_T45 HR2.out x68_3 c46 c45
                 cases e2_
                 replace x2a := (HS.out.below.cell (World.block_lt_of_cell? w _ x2a)).trans x2a
                 replace x2b := (HS.out.below.cell (World.block_lt_of_cell? w _ x2b)).trans x2b
                 replace x2c := (HS.out.below.cell (World.block_lt_of_cell? w _ x2c)).trans x2c
                 replace x2d := (HS.out.below.cell (World.block_lt_of_cell? w _ x2d)).trans x2d
                 have p2_ := eq_true c46
                 have q2_ := eq_true c45
                 by_cases c48 : t142 = true
                 ·subst c48
                  rw [if_pos rfl] at H
                  by_cases c50 : extIn x31_3 x11_1 (Go.bits .or .i64 (Go.bits .and .i64 x11_1 (wrap64 (-x11_1))) x15_2)
                  ·rw [if_pos c50] at H
                   have H' := Aside0.mk H
                   clear H
                   replace c50 : extIn x31_3 x11_1 (Go.bits .or .i64 (Go.bits .and .i64 x11_1 (wrap64 (-x11_1))) x15_2) := c50
                   go_wp2_with (first | ((with_reducible refine gate_dst (N := 18) rfl ?_); refine box_event ?hg (N := 18) ?hd (cs := #[.int .i64 0, .int .i64 0, .int .i64 0, .int .i64 0]) (t := 45) ?hr ?_; (case hd => rfl); (case hg => rfl); (case hr => first | (go_simp; done) | (go_simp; rfl)); intro gO hg w51 hbox hb; have g0_ := Aside0.mk (show w.heap.size ≤ gO from by rw [hg]; exact HS.out.below.size); have a0_ := Aside0.mk hbox; have n0_ := Aside0.mk (HS.out.step hb); have n1_ := Aside0.mk (blk_below BKS.out hb); have n2_ := Aside0.mk (blk_below BKF.out hb); have n3_ := Aside0.mk (Kd.R_below HM.out hb); clear HS BKS BKF HM; have HS := n0_; have BKS := n1_; have BKF := n2_; have HM := n3_; clear n0_ n1_ n2_ n3_; have BKO := a0_; have GBKO := g0_; clear a0_ g0_ hb hbox hg; have cz0_ : w51.cell? ⟨gO, 0, none⟩ = some (.int .i64 0) := (blk_cell BKO.out 0).trans rfl; have fz0_ := blk_frozen BKO.out 0; have cz1_ : w51.cell? ⟨gO, 1, none⟩ = some (.int .i64 0) := (blk_cell BKO.out 1).trans rfl; have fz1_ := blk_frozen BKO.out 1; have cz2_ : w51.cell? ⟨gO, 2, none⟩ = some (.int .i64 0) := (blk_cell BKO.out 2).trans rfl; have fz2_ := blk_frozen BKO.out 2; have cz3_ : w51.cell? ⟨gO, 3, none⟩ = some (.int .i64 0) := (blk_cell BKO.out 3).trans rfl; have fz3_ := blk_frozen BKO.out 3; ) | (go_at_call 33; have hk_ := putO HS BKS BKF HM BKO GBKO (rd_T45 l2 x68_3).f0 (rd_T45 l2 x68_3).f1 (rd_T45 l2 x68_3).f2 (rd_T45 l2 x68_3).f3; clear HS BKS BKF HM BKO cz0_ cz1_ cz2_ cz3_ fz0_ fz1_ fz2_ fz3_; obtain ⟨HS, BKS, BKF, HM, BKO⟩ := hk_; (with_reducible refine (group_holds.calls k3 (rd_T45 l2 x68_3).f0 (rd_T45 l2 x68_3).f1 (rd_T45 l2 x68_3).f2 (rd_T45 l2 x68_3).f3 _ _ l0 _ _ t137 true _ (Kd.C_below HR0.out HS.out.below) HC0.out (Kd.R_reads' HM.out).2.2 (Kd.R_reads' HM.out).2.1 A47.out).mono ?_); rintro e w53 ⟨rfl, hb⟩; have n0_ := Aside0.mk (HS.out.step hb); have n1_ := Aside0.mk (blk_below BKS.out hb); have n2_ := Aside0.mk (blk_below BKF.out hb); have n3_ := Aside0.mk (Kd.R_below HM.out hb); have n4_ := Aside0.mk (blk_below BKO.out hb); clear HS BKS BKF HM BKO; have HS := n0_; have BKS := n1_; have BKF := n2_; have HM := n3_; have BKO := n4_; clear n0_ n1_ n2_ n3_ n4_; clear hb; (try clear o0_); have o0_ : w53.cell? ⟨gO, 0, none⟩ = some (.int .i64 (rd_T45 l2 x68_3).f0) := (blk_cell BKO.out 0).trans rfl; (try clear o1_); have o1_ : w53.cell? ⟨gO, 1, none⟩ = some (.int .i64 (rd_T45 l2 x68_3).f1) := (blk_cell BKO.out 1).trans rfl; (try clear o2_); have o2_ : w53.cell? ⟨gO, 2, none⟩ = some (.int .i64 (rd_T45 l2 x68_3).f2) := (blk_cell BKO.out 2).trans rfl; (try clear o3_); have o3_ : w53.cell? ⟨gO, 3, none⟩ = some (.int .i64 (rd_T45 l2 x68_3).f3) := (blk_cell BKO.out 3).trans rfl; (try clear fS); have fS : w53.cell? ⟨gS, 0, none⟩ = some (.int .i64 x11_1) := (blk_cell BKS.out 0).trans rfl; ) | (go_at_call 31; have hs_ := HS.out; rw [HN3.out] at hs_; clear HS; have HS := Aside0.mk hs_; clear hs_; (with_reducible refine (ext31 (rd_T45 l2 x68_3).f0 (Go.bits .or .i64 (Go.bits .and .i64 x11_1 (wrap64 (-x11_1))) x15_2) (rd_T45 l2 x68_3).f3 gB gS gF gr cr x11_1 true x31_3 w.heap.size _ HS.out.box BKS.out BKF.out HS.out.row c50).mono ?_); rintro e w54 ⟨rfl, hr_, hf_, hm_⟩; have n0_ := Aside0.mk (HS.out.ext BKF.out GBKF.out hm_ hr_); have n1_ := Aside0.mk (HS.out.at_ BKF.out hm_ BKS.out (by decide) (by decide)); have n2_ := Aside0.mk (HS.out.ints BKF.out hm_ HM.out); have f_ := Aside0.mk hf_; clear hr_ hf_ hm_ BKF HS BKS HM; have BKF := f_; clear f_; have HS := n0_; have BKS := n1_; have HM := n2_; clear n0_ n1_ n2_; have hs_ := HS.out; rw [← HN3.out] at hs_; clear HS; have HS := Aside0.mk hs_; clear hs_; (try clear fS); have fS : w54.cell? ⟨gS, 0, none⟩ = some (.int .i64 x11_1) := (blk_cell BKS.out 0).trans rfl; ))
                   go_roundg k3
                   case measure => have := HK1.out; have := HK2.out; have := HK3.out; omega
                   case rel => exact ⟨_, wrap64 (x68_3 + 1), (by first | rfl | (simp; done)), H', ⟨by have := HK1.out; have := HK2.out; have := HK3.out; omega⟩, HS, BKS, BKF, HM⟩
                  ·rw [if_neg c50] at H
                   exact absurd H (by simp)
                 ·replace c48 := Bool.eq_false_iff.mpr c48
                  subst c48
                  rw [if_neg (show ¬ (false = true) by decide)] at H
                  have H' := Aside0.mk H
                  clear H
                  go_wp2_with (first | ((with_reducible refine gate_dst (N := 18) rfl ?_); refine box_event ?hg (N := 18) ?hd (cs := #[.int .i64 0, .int .i64 0, .int .i64 0, .int .i64 0]) (t := 45) ?hr ?_; (case hd => rfl); (case hg => rfl); (case hr => first | (go_simp; done) | (go_simp; rfl)); intro gO hg w51 hbox hb; have g0_ := Aside0.mk (show w.heap.size ≤ gO from by rw [hg]; exact HS.out.below.size); have a0_ := Aside0.mk hbox; have n0_ := Aside0.mk (HS.out.step hb); have n1_ := Aside0.mk (blk_below BKS.out hb); have n2_ := Aside0.mk (blk_below BKF.out hb); have n3_ := Aside0.mk (Kd.R_below HM.out hb); clear HS BKS BKF HM; have HS := n0_; have BKS := n1_; have BKF := n2_; have HM := n3_; clear n0_ n1_ n2_ n3_; have BKO := a0_; have GBKO := g0_; clear a0_ g0_ hb hbox hg; have cz0_ : w51.cell? ⟨gO, 0, none⟩ = some (.int .i64 0) := (blk_cell BKO.out 0).trans rfl; have fz0_ := blk_frozen BKO.out 0; have cz1_ : w51.cell? ⟨gO, 1, none⟩ = some (.int .i64 0) := (blk_cell BKO.out 1).trans rfl; have fz1_ := blk_frozen BKO.out 1; have cz2_ : w51.cell? ⟨gO, 2, none⟩ = some (.int .i64 0) := (blk_cell BKO.out 2).trans rfl; have fz2_ := blk_frozen BKO.out 2; have cz3_ : w51.cell? ⟨gO, 3, none⟩ = some (.int .i64 0) := (blk_cell BKO.out 3).trans rfl; have fz3_ := blk_frozen BKO.out 3; ) | (go_at_call 33; have hk_ := putO HS BKS BKF HM BKO GBKO (rd_T45 l2 x68_3).f0 (rd_T45 l2 x68_3).f1 (rd_T45 l2 x68_3).f2 (rd_T45 l2 x68_3).f3; clear HS BKS BKF HM BKO cz0_ cz1_ cz2_ cz3_ fz0_ fz1_ fz2_ fz3_; obtain ⟨HS, BKS, BKF, HM, BKO⟩ := hk_; (with_reducible refine (group_holds.calls k3 (rd_T45 l2 x68_3).f0 (rd_T45 l2 x68_3).f1 (rd_T45 l2 x68_3).f2 (rd_T45 l2 x68_3).f3 _ _ l0 _ _ t137 false _ (Kd.C_below HR0.out HS.out.below) HC0.out (Kd.R_reads' HM.out).2.2 (Kd.R_reads' HM.out).2.1 A47.out).mono ?_); rintro e w53 ⟨rfl, hb⟩; have n0_ := Aside0.mk (HS.out.step hb); have n1_ := Aside0.mk (blk_below BKS.out hb); have n2_ := Aside0.mk (blk_below BKF.out hb); have n3_ := Aside0.mk (Kd.R_below HM.out hb); have n4_ := Aside0.mk (blk_below BKO.out hb); clear HS BKS BKF HM BKO; have HS := n0_; have BKS := n1_; have BKF := n2_; have HM := n3_; have BKO := n4_; clear n0_ n1_ n2_ n3_ n4_; clear hb; (try clear o0_); have o0_ : w53.cell? ⟨gO, 0, none⟩ = some (.int .i64 (rd_T45 l2 x68_3).f0) := (blk_cell BKO.out 0).trans rfl; (try clear o1_); have o1_ : w53.cell? ⟨gO, 1, none⟩ = some (.int .i64 (rd_T45 l2 x68_3).f1) := (blk_cell BKO.out 1).trans rfl; (try clear o2_); have o2_ : w53.cell? ⟨gO, 2, none⟩ = some (.int .i64 (rd_T45 l2 x68_3).f2) := (blk_cell BKO.out 2).trans rfl; (try clear o3_); have o3_ : w53.cell? ⟨gO, 3, none⟩ = some (.int .i64 (rd_T45 l2 x68_3).f3) := (blk_cell BKO.out 3).trans rfl; (try clear fS); have fS : w53.cell? ⟨gS, 0, none⟩ = some (.int .i64 x11_1) := (blk_cell BKS.out 0).trans rfl; ))
                  go_roundg k3
                  case measure => have := HK1.out; have := HK2.out; have := HK3.out; omega
                  case rel => exact ⟨_, wrap64 (x68_3 + 1), (by first | rfl | (simp; done)), H', ⟨by have := HK1.out; have := HK2.out; have := HK3.out; omega⟩, HS, BKS, BKF, HM⟩
                ·rw [if_neg c46] at H
                 exact absurd H (by simp)
               ·rw [if_neg c45] at H
                have c45b : decide (x68_3 < (l2.length : Int)) = false := decide_eq_false c45
                by_cases c51 : x15_2 = 0
                ·rw [if_pos c51] at H
                 have c51b : (x15_2 == 0) = true := beq_iff_eq.2 c51
                 have H' := Aside0.mk H
                 clear H HM
                 go_upto_region 7 with (first | ((with_reducible refine gate_dst (N := 11) rfl ?_); refine box_event ?hg (N := 11) ?hd (cs := #[.int .i64 0]) (t := 3) ?hr ?_; (case hd => rfl); (case hg => rfl); (case hr => first | (go_simp; done) | (go_simp; rfl)); intro gS2 hg w61 hbox hb; have g0_ := Aside0.mk (show w.heap.size ≤ gS2 from by rw [hg]; exact HS.out.below.size); have a0_ := Aside0.mk hbox; have n0_ := Aside0.mk (HS.out.step hb); have n1_ := Aside0.mk (blk_below BKS.out hb); clear HS BKS; have HS := n0_; have BKS := n1_; clear n0_ n1_; have BKT := a0_; have GBKT := g0_; clear a0_ g0_ hb hbox hg; have cz_ : w61.cell? ⟨gS2, 0, none⟩ = some (.int .i64 0) := (blk_cell BKT.out 0).trans rfl; have fz_ := blk_frozen BKT.out 0; ) | ((with_reducible refine gate_store (t := 3) (p := 11) rfl ?_); refine store_event (t := 3) (p := 11) (v := ?vow62) (w1 := w61.setCell ⟨gS2, 0, none⟩ (.int .i64 x11_1)) ?hg ?ho ?hn ?hr ?_; (case ho => rfl); (case hg => rfl); (case hn => rfl); (case hr => first | (go_simp; done) | (go_simp; rfl)); intro w62 hw_; have b_ := Aside0.mk (show w62.heap[gS2]? = some (.cells #[.int .i64 x11_1] 3 (0, 0)) from by rw [hw_]; exact blk_put BKT.out 0 _ rfl); have n0_ := Aside0.mk (show BSt w w62 _ _ _ _ _ from by rw [hw_]; exact HS.out.put BKT.out (by decide) (by decide) GBKT.out _ _); clear hw_ BKT HS; have BKT := b_; clear b_; have HS := n0_; clear n0_; clear cz_ fz_; have cz_ : w62.cell? ⟨gS2, 0, none⟩ = some (.int .i64 x11_1) := (blk_cell BKT.out 0).trans rfl; have fz_ := blk_frozen BKT.out 0; ))
                 go_wp2_with (first | ((with_reducible refine gate_store (t := 3) (p := 11) rfl ?_); refine store_event (t := 3) (p := 11) (v := ?vow63) (w1 := w62.setCell ⟨gS2, 0, none⟩ (.int .i64 (wrap64 (x11_1 + 1)))) ?hg ?ho ?hn ?hr ?_; (case ho => rfl); (case hg => rfl); (case hn => rfl); (case hr => first | (go_simp; done) | (go_simp; rfl)); intro w63 hw_; have b_ := Aside0.mk (show w63.heap[gS2]? = some (.cells #[.int .i64 (wrap64 (x11_1 + 1))] 3 (0, 0)) from by rw [hw_]; exact blk_put BKT.out 0 _ rfl); have n0_ := Aside0.mk (show BSt w w63 _ _ _ _ _ from by rw [hw_]; exact HS.out.put BKT.out (by decide) (by decide) GBKT.out _ _); clear hw_ BKT HS; have BKT := b_; clear b_; have HS := n0_; clear n0_; ))
                 go_roundg k3
                 case measure => have := HK1.out; have := HK2.out; have := HK3.out; omega
                 case rel => exact ⟨wrap64 (x11_1 + 1), _, gS2, rfl, H', ⟨by have := HK1.out; have := HK2.out; have := HK3.out; omega⟩, HS, BKT, GBKT⟩
                ·rw [if_neg c51] at H
                 have c51b : (x15_2 == 0) = false := beq_eq_false_iff_ne.2 c51
                 have H' := Aside0.mk H
                 clear H
                 go_wp2
                 go_roundg k3
                 case measure => have := HK1.out; have := HK2.out; have := HK3.out; omega
                 case rel => exact ⟨_, _, (by first | rfl | (simp; done)), H', ⟨by have := HK1.out; have := HK2.out; have := HK3.out; omega⟩, HS, BKS, BKF⟩
          ·rw [if_neg c18] at H
           exact absurd H (by simp)
         ·rw [if_neg c17] at H
          exact absurd H (by simp)
        ·rw [if_neg c16] at H
         exact absurd H (by simp)
       ·rw [if_neg c15] at H
        exact absurd H (by simp)
      ·rw [if_neg c13] at H
       have c13b0 : decide (x11_1 < (x31_1.length : Int)) = false := decide_eq_false c13
       have H' := Aside0.mk H
       clear H c13
       have FS := Aside0.mk fS
       have HO_31 := Aside0.mk HS.out.row
       have BK134 := Aside0.mk HS.out.box
       have HB := Aside0.mk HS.out.below
       have GE134 := Aside0.mk HS.out.geB
       clear HS BKS GBKS fB fS
       have hg_ : ∃ (A_ : Option Addr) (c_ : Nat), Aside0 (Kd.R k60 60 wr w.heap.size (fun _ => True) (.slice A_ x31_1.length c_) x31_1) ∧ Aside0 (wr.heap[gB]? = some (.cells #[.slice A_ x31_1.length c_] 58 (0, 0))) := ⟨_, _, HO_31, BK134⟩
       clear HO_31 BK134
       obtain ⟨Ao56, co56, HO_31, BK134⟩ := hg_
       have fB := (show wr.cell? ⟨gB, 0, none⟩ = some (.slice Ao56 x31_1.length co56) from (blk_cell BK134.out 0).trans rfl)
       have fS : wr.cell? ⟨gS, 0, none⟩ = some (.int .i64 x11_1) := FS.out
       go_wp2
       go_loopg [19, 20] k1 (fun kq v19 v20 w' => ∃ (x19_2 : List (S43)) (x20_2 : Int), v20 = .int .i64 x20_2 ∧ Aside0 (group_Best.l3 kq x19_2 x20_2 x31_1 = some (r1, r2, r3)) ∧ Aside0 (kq ≤ k1) ∧ Aside0 (Kd.S k43 43 w' w.heap.size (fun _ => True) v19 x19_2) ∧ Aside0 (Kd.R k60 60 w' w.heap.size (fun _ => True) (.slice Ao56 x31_1.length co56) x31_1) ∧ Aside0 (w'.heap[gB]? = some (.cells #[.slice Ao56 x31_1.length co56] 58 (0, 0))) ∧ Aside0 (Below w.heap.size w w'))
       case atStart => exact ⟨(([] : List (S43))), (wrap64 ((x31_1.length : Int) - 1)), (by first | rfl | (simp; done) | (simp [*]; done)), H', ⟨Nat.le_refl _⟩, ⟨by first | exact Kd.S_nil _ _ _ _ _ | exact Kd.N_nil _ _ _ _ _ | exact Kd.V_nil _ _ _ _ _ | exact Kd.Q_nil _ _ _ _ _ | exact Kd.R_nil _ _ _ _ _⟩, ⟨by (with_reducible repeat (first | apply Kd.R_alloc | apply Kd.R_drewN | apply Kd.R_drew)); exact HO_31.out⟩, ⟨by (with_reducible repeat (first | refine blk_drewN ?_ _ | refine blk_drew ?_ | refine blk_alloc ?_ _)); exact BK134.out⟩, ⟨by repeat (first | (with_reducible first | exact HB.out | apply below_alloc | apply pw_below_drewN | apply below_drew1 | refine below_set ?_ GE134.out) | exact HB.out)⟩⟩
       case round =>
        clear H'
        try clear c1
        try clear p1
        try clear q1
        try clear hx1
        try clear qi1
        try clear c2
        try clear p2
        try clear hx2
        try clear c3
        try clear p3
        try clear q3
        try clear hx3
        try clear hf3
        try clear c4
        try clear hx4
        try clear hf4
        try clear c5
        try clear c5b0
        try clear c5b1
        try clear p6
        try clear c7
        try clear c7b0
        try clear c7b1
        try clear c8
        try clear c8b0
        try clear c8b1
        try clear c12
        try clear c13
        try clear c13b0
        try clear p13
        try clear q13
        try clear hx13
        try clear qi13
        try clear p14
        try clear q14
        try clear hx14
        try clear c15
        try clear c15b0
        try clear c15b1
        try clear c16
        try clear c16b0
        try clear c17
        try clear c17b0
        try clear c18
        try clear c18b0
        try clear c19
        try clear p19
        try clear q19
        try clear hx19
        try clear hf19
        try clear c22
        try clear c24
        try clear hx24
        try clear hf24
        try clear c26
        try clear c30
        try clear c30b0
        try clear c31
        try clear c31b0
        try clear c32
        try clear c32b0
        try clear c33
        try clear c34
        try clear c35
        try clear c35b0
        try clear c36
        try clear c36b0
        try clear c37
        try clear p37
        try clear q37
        try clear hx37
        try clear hf37
        try clear c39
        try clear c40
        try clear c45
        try clear hx45
        try clear hf45
        try clear c47
        try clear c50
        try clear c51
        try clear c55
        try clear c55b0
        try clear c55b1
        try clear hcz27_0
        try clear hcz27_1
        try clear hcz27_2
        try clear hcz27_3
        try clear hcz41_0
        try clear hcz41_1
        try clear hcz41_2
        try clear hcz41_3
        try clear hcz44_0
        try clear hcz44_1
        try clear hcz44_2
        try clear hcz44_3
        try clear hcz48_0
        try clear hcz48_1
        try clear hcz48_2
        try clear hcz48_3
        try clear hcz52_0
        try clear hcz52_1
        try clear hcz52_2
        try clear hcz52_3
        try clear hfz27_0
        try clear hfz27_1
        try clear hfz27_2
        try clear hfz27_3
        try clear hfz41_0
        try clear hfz41_1
        try clear hfz41_2
        try clear hfz41_3
        try clear hfz44_0
        try clear hfz44_1
        try clear hfz44_2
        try clear hfz44_3
        try clear hfz48_0
        try clear hfz48_1
        try clear hfz48_2
        try clear hfz48_3
        try clear hfz52_0
        try clear hfz52_1
        try clear hfz52_2
        try clear hfz52_3
        try clear hx139_0
        try clear hx140_0
        try clear hx145_0
        try clear hx145_1
        try clear hx145_2
        try clear hx145_3
        try clear hx19_0
        try clear hx19_1
        try clear hx19_2
        try clear hx19_3
        try clear hx24_0
        try clear hx24_1
        try clear hx24_2
        try clear hx24_3
        try clear hx37_0
        try clear hx37_1
        try clear hx37_2
        try clear hx37_3
        try clear hx45_0
        try clear hx45_1
        try clear hx45_2
        try clear hx45_3
        try clear p1
        try clear p13
        try clear p139
        try clear p14
        try clear p140
        try clear p145
        try clear p19
        try clear p2
        try clear p37
        try clear p6
        try clear q1
        try clear q13
        try clear q139
        try clear q14
        try clear q140
        try clear q145
        try clear q19
        try clear q37
        obtain ⟨x19_2, x20_2, rfl, HA, HK2, HO_19, HO_31, BK134, HB⟩ := hrel
        cases gk with
        | zero => exact absurd HA.out (by simp [group_Best.l3])
        | succ k2 =>
         have H := HA.out
         clear HA
         simp only [group_Best.l3] at H
         by_cases c57 : x20_2 > 0
         ·rw [if_pos c57] at H
          have c57b0 : decide (0 < x20_2) = true := decide_eq_true c57
          clear c57
          by_cases c58 : 0 ≤ x20_2
          ·rw [if_pos c58] at H
           have c58b0 : decide (0 ≤ x20_2) = true := decide_eq_true c58
           clear c58
           by_cases c59 : x20_2 < (x31_1.length : Int)
           ·rw [if_pos c59] at H
            have c59b0 : decide (x20_2 < (x31_1.length : Int)) = true := decide_eq_true c59
            clear c59
            replace H := Option.bind_eq_some_iff.mp H
            obtain ⟨t151, A600, H⟩ := H
            replace H : (if x19_2.length < 4398046511104 then (group_Best.l3 k2 (x19_2 ++ [(⟨(rd_T60 x31_1 x20_2).f0, t151⟩ : S43)]) (Go.bits .andNot .i64 x20_2 ((rd_T60 x31_1 x20_2).f1)) x31_1) else (none)) = some (r1, r2, r3) := H
            have A60 := Aside0.mk A600
            clear A600
            by_cases c61 : x19_2.length < 4398046511104
            ·rw [if_pos c61] at H
             have LMc61 := Aside0.mk c61
             clear c61
             obtain ⟨y154, hy154⟩ : ∃ y_ : List (S43), y_ = (x19_2 ++ [(⟨(rd_T60 x31_1 x20_2).f0, t151⟩ : S43)]) := ⟨_, rfl⟩
             replace H : (group_Best.l3 k2 y154 (Go.bits .andNot .i64 x20_2 ((rd_T60 x31_1 x20_2).f1)) x31_1) = some (r1, r2, r3) := by first | (rw [hy154]; with_reducible exact H) | (have H2_ := (Option.bind_some _ _).symm.trans H; rw [hy154]; with_reducible exact H2_) | (have H2_ := (Option.bind_some _ _).symm.trans H; with_reducible exact H2_) | with_reducible exact H | (rw [hy154]; exact H) | exact H
             have Ny154 := Aside0.mk hy154
             clear hy154
             have H' := Aside0.mk H
             clear H
             try go_wp2
             have n0_ := Aside0.mk (Kd.S_drew HO_19.out)
             have n1_ := Aside0.mk (Kd.R_drew HO_31.out)
             have n2_ := Aside0.mk (blk_drew BK134.out)
             have n3_ := Aside0.mk (below_drew1 HB.out)
             clear HO_19
             clear HO_31
             clear BK134
             clear HB
             have HO_19 := n0_
             have HO_31 := n1_
             have BK134 := n2_
             have HB := n3_
             clear n0_ n1_ n2_ n3_
             have p149 : 0 ≤ (x20_2 : Int) := of_decide_eq_true (by first | (with_reducible assumption) | assumption)
             have q149 : x20_2 < (x31_1.length : Int) := of_decide_eq_true (by first | (with_reducible assumption) | assumption)
             obtain ⟨ad149, e149, hx149_0, hx149_1, hx149_2, hx149_3⟩ := at_T60 (Kd.R_reads' HO_31.out).2.2 x20_2 p149 q149
             cases e149
             replace p149 := eq_true p149
             replace q149 := eq_true q149
             have p150 : 0 ≤ (x20_2 : Int) := of_decide_eq_true (by first | (with_reducible assumption) | assumption)
             have q150 : x20_2 < (x31_1.length : Int) := of_decide_eq_true (by first | (with_reducible assumption) | assumption)
             obtain ⟨ad150, e150, hx150_0, hx150_1, hx150_2, hx150_3⟩ := at_T60 (Kd.R_reads' HO_31.out).2.2 x20_2 p150 q150
             obtain rfl : ad149 = ad150 := (by injection e150)
             replace p150 := eq_true p150
             replace q150 := eq_true q150
             have fBx := (show wr.drew.cell? ⟨gB, 0, none⟩ = some (.slice (some ad149) x31_1.length co56) from (blk_cell BK134.out 0).trans rfl)
             refine start_ (n := 16) (S := fun w' => w'.cell? (ad149.add ((x20_2).toNat * 4)) = some (.int .i64 ((rd_T60 x31_1 x20_2).f0)) ∧ w'.cell? ⟨(ad149.add ((x20_2).toNat * 4)).block, (ad149.add ((x20_2).toNat * 4)).off + 1, none⟩ = some (.int .i64 ((rd_T60 x31_1 x20_2).f1)) ∧ w'.cell? ⟨(ad149.add ((x20_2).toNat * 4)).block, (ad149.add ((x20_2).toNat * 4)).off + 2, none⟩ = some (.int .i64 ((rd_T60 x31_1 x20_2).f2)) ∧ w'.cell? ⟨(ad149.add ((x20_2).toNat * 4)).block, (ad149.add ((x20_2).toNat * 4)).off + 3, none⟩ = some (.int .i64 ((rd_T60 x31_1 x20_2).f3)) ∧ w'.cell? (ad149.add ((x20_2).toNat * 4)) = some (.int .i64 ((rd_T60 x31_1 x20_2).f0)) ∧ w'.cell? ⟨(ad149.add ((x20_2).toNat * 4)).block, (ad149.add ((x20_2).toNat * 4)).off + 1, none⟩ = some (.int .i64 ((rd_T60 x31_1 x20_2).f1)) ∧ w'.cell? ⟨(ad149.add ((x20_2).toNat * 4)).block, (ad149.add ((x20_2).toNat * 4)).off + 2, none⟩ = some (.int .i64 ((rd_T60 x31_1 x20_2).f2)) ∧ w'.cell? ⟨(ad149.add ((x20_2).toNat * 4)).block, (ad149.add ((x20_2).toNat * 4)).off + 3, none⟩ = some (.int .i64 ((rd_T60 x31_1 x20_2).f3)) ∧ w'.cell? ⟨gB, 0, none⟩ = some (.slice (some ad149) x31_1.length co56)) (ds := [13, 14]) #[false, false, false, false, false, false, false, false, false, false, false, false, false, false, false, false] (by kernel_rfl) rfl rfl ⟨hx149_0, hx149_1, hx149_2, hx149_3, hx150_0, hx150_1, hx150_2, hx150_3, fBx⟩ (fun hHeld => ?_); refine with_tabW group_Best.tab28 group_Best.bits28 (fun HT_ HW_ => ?_)
             generalize wr.drew = w62 at HO_19 HO_31 BK134 HB hx149_0 hx149_1 hx149_2 hx149_3 hx150_0 hx150_1 hx150_2 hx150_3 fBx hHeld ⊢
             refine pure_ (i := 0) (N := some 101) (v := ?_) (a' := ?_) #[true, false, false, false, false, false, false, false, false, false, false, false, false, false, false, false] rfl rfl (any_of HT_.out (by kernel_rfl)) (fun _ _ _ h => h) (Or.inl ⟨by rfl, ?_⟩) ?_ ?_
             rotate_left
             ·intro w'
              go_simp
              with_reducible rfl
             rotate_left
             ·simp only [Act.put, List.setIfInBounds_toArray, List.set_cons_zero, List.set_cons_succ, i64_w, i32_w]
              rfl
             refine take_ (i := 1) (N := some 102) (v := ?_) (a' := ?_) #[true, true, false, false, false, false, false, false, false, false, false, false, false, false, false, false] rfl rfl (take_ofW HT_.out HW_.out (by kernel_rfl)) (fun _ _ _ h => h) (Or.inl ⟨by rfl, ?_⟩) hHeld ?_ ?_
             rotate_left
             ·rintro w' ⟨s0, s1, s2, s3, s4, s5, s6, s7, s8⟩
              go_simp
              with_reducible rfl
             rotate_left
             ·simp only [Act.put, List.setIfInBounds_toArray, List.set_cons_zero, List.set_cons_succ, i64_w, i32_w]
              rfl
             refine pure_ (i := 2) (N := some 103) (v := ?_) (a' := ?_) #[true, true, true, false, false, false, false, false, false, false, false, false, false, false, false, false] rfl rfl (any_of HT_.out (by kernel_rfl)) (fun _ _ _ h => h) (Or.inl ⟨by rfl, ?_⟩) ?_ ?_
             rotate_left
             ·intro w'
              go_simp
              with_reducible rfl
             rotate_left
             ·simp only [Act.put, List.setIfInBounds_toArray, List.set_cons_zero, List.set_cons_succ, i64_w, i32_w]
              rfl
             refine pure_ (i := 3) (N := some 104) (v := ?_) (a' := ?_) #[true, true, true, true, false, false, false, false, false, false, false, false, false, false, false, false] rfl rfl (any_of HT_.out (by kernel_rfl)) (fun _ _ _ h => h) (Or.inl ⟨by rfl, ?_⟩) ?_ ?_
             rotate_left
             ·intro w'
              go_simp
              with_reducible rfl
             rotate_left
             ·simp only [Act.put, List.setIfInBounds_toArray, List.set_cons_zero, List.set_cons_succ, i64_w, i32_w]
              rfl
             refine pure_ (i := 4) (N := some 105) (v := ?_) (a' := ?_) #[true, true, true, true, true, false, false, false, false, false, false, false, false, false, false, false] rfl rfl (any_of HT_.out (by kernel_rfl)) (fun _ _ _ h => h) (Or.inl ⟨by rfl, ?_⟩) ?_ ?_
             rotate_left
             ·intro w'
              go_simp
              with_reducible rfl
             rotate_left
             ·simp only [Act.put, List.setIfInBounds_toArray, List.set_cons_zero, List.set_cons_succ, i64_w, i32_w]
              rfl
             refine take_ (i := 6) (N := some 107) (v := ?_) (a' := ?_) #[true, true, true, true, true, false, true, false, false, false, false, false, false, false, false, false] rfl rfl (take_ofW HT_.out HW_.out (by kernel_rfl)) (fun _ _ _ h => h) (Or.inl ⟨by rfl, ?_⟩) hHeld ?_ ?_
             rotate_left
             ·rintro w' ⟨s0, s1, s2, s3, s4, s5, s6, s7, s8⟩
              go_simp
              with_reducible rfl
             rotate_left
             ·simp only [Act.put, List.setIfInBounds_toArray, List.set_cons_zero, List.set_cons_succ, i64_w, i32_w]
              rfl
             refine pure_ (i := 7) (N := some 108) (v := ?_) (a' := ?_) #[true, true, true, true, true, false, true, true, false, false, false, false, false, false, false, false] rfl rfl (any_of HT_.out (by kernel_rfl)) (fun _ _ _ h => h) (Or.inl ⟨by rfl, ?_⟩) ?_ ?_
             rotate_left
             ·intro w'
              go_simp
              with_reducible rfl
             rotate_left
             ·simp only [Act.put, List.setIfInBounds_toArray, List.set_cons_zero, List.set_cons_succ, i64_w, i32_w]
              rfl
             refine pure_ (i := 8) (N := some 109) (v := ?_) (a' := ?_) #[true, true, true, true, true, false, true, true, true, false, false, false, false, false, false, false] rfl rfl (any_of HT_.out (by kernel_rfl)) (fun _ _ _ h => h) (Or.inl ⟨by rfl, ?_⟩) ?_ ?_
             rotate_left
             ·intro w'
              go_simp
              with_reducible rfl
             rotate_left
             ·simp only [Act.put, List.setIfInBounds_toArray, List.set_cons_zero, List.set_cons_succ, i64_w, i32_w]
              rfl
             refine pure_ (i := 9) (N := some 110) (v := ?_) (a' := ?_) #[true, true, true, true, true, false, true, true, true, true, false, false, false, false, false, false] rfl rfl (any_of HT_.out (by kernel_rfl)) (fun _ _ _ h => h) (Or.inl ⟨by rfl, ?_⟩) ?_ ?_
             rotate_left
             ·intro w'
              go_simp
              with_reducible rfl
             rotate_left
             ·simp only [Act.put, List.setIfInBounds_toArray, List.set_cons_zero, List.set_cons_succ, i64_w, i32_w]
              rfl
             refine take_ (i := 5) (N := some 106) (v := ?_) (a' := ?_) #[true, true, true, true, true, true, true, true, true, true, false, false, false, false, false, false] rfl rfl (take_ofW HT_.out HW_.out (by kernel_rfl)) (fun _ _ _ h => h) (Or.inl ⟨by rfl, ?_⟩) hHeld ?_ ?_
             rotate_left
             ·rintro w' ⟨s0, s1, s2, s3, s4, s5, s6, s7, s8⟩
              go_simp
              with_reducible rfl
             rotate_left
             ·simp only [Act.put, List.setIfInBounds_toArray, List.set_cons_zero, List.set_cons_succ, i64_w, i32_w]
              rfl
             refine take_ (i := 10) (N := some 111) (v := ?_) (a' := ?_) #[true, true, true, true, true, true, true, true, true, true, true, false, false, false, false, false] rfl rfl (take_ofW HT_.out HW_.out (by kernel_rfl)) (fun _ _ _ h => h) (Or.inl ⟨by rfl, ?_⟩) hHeld ?_ ?_
             rotate_left
             ·rintro w' ⟨s0, s1, s2, s3, s4, s5, s6, s7, s8⟩
              go_simp
              with_reducible rfl
             rotate_left
             ·simp only [Act.put, List.setIfInBounds_toArray, List.set_cons_zero, List.set_cons_succ, i64_w, i32_w]
              rfl
             refine one_ (i := 11) (N := some 112) #[true, true, true, true, true, true, true, true, true, true, true, true, false, false, false, false] rfl rfl (one_of HT_.out (by kernel_rfl)) (by decide) (fun K hK => ?_)
             refine goes_ Try.func32 (by kernel_rfl) rfl #[.int .i64 ((rd_T60 x31_1 x20_2).f1)] (by rfl) rfl rfl (by (try simp only [List.map_toArray, List.map_cons, List.map_nil]); first | done | rfl | (simp only [List.length_drop, List.length_take]; rfl)) ?_
             with_reducible refine (group_members.calls k2 ((rd_T60 x31_1 x20_2).f1) t151 _ A60.out).mono ?_
             rintro e w63 ⟨v152, rfl, ho0, hb⟩
             have HS0_ := (hb.cell (World.block_lt_of_cell? _ _ (hHeld.1))).trans (hHeld.1)
             have HS1_ := (hb.cell (World.block_lt_of_cell? _ _ (hHeld.2.1))).trans (hHeld.2.1)
             have HS2_ := (hb.cell (World.block_lt_of_cell? _ _ (hHeld.2.2.1))).trans (hHeld.2.2.1)
             have HS3_ := (hb.cell (World.block_lt_of_cell? _ _ (hHeld.2.2.2.1))).trans (hHeld.2.2.2.1)
             have HS4_ := (hb.cell (World.block_lt_of_cell? _ _ (hHeld.2.2.2.2.1))).trans (hHeld.2.2.2.2.1)
             have HS5_ := (hb.cell (World.block_lt_of_cell? _ _ (hHeld.2.2.2.2.2.1))).trans (hHeld.2.2.2.2.2.1)
             have HS6_ := (hb.cell (World.block_lt_of_cell? _ _ (hHeld.2.2.2.2.2.2.1))).trans (hHeld.2.2.2.2.2.2.1)
             have HS7_ := (hb.cell (World.block_lt_of_cell? _ _ (hHeld.2.2.2.2.2.2.2.1))).trans (hHeld.2.2.2.2.2.2.2.1)
             have HS8_ := (hb.cell (World.block_lt_of_cell? _ _ (hHeld.2.2.2.2.2.2.2.2))).trans (hHeld.2.2.2.2.2.2.2.2)
             refine ⟨_, rfl, ?_⟩
             have n0_ := Aside0.mk (Kd.S_elder' (by (with_reducible repeat (first | apply Kd.S_alloc | apply Kd.S_drewN | apply Kd.S_drew)); exact HO_19.out) (Kd.R_base ho0) hb)
             have n1_ := Aside0.mk (Kd.R_below (by (with_reducible repeat (first | apply Kd.R_alloc | apply Kd.R_drewN | apply Kd.R_drew)); exact HO_31.out) hb)
             have n2_ := Aside0.mk (Kd.R_lower ho0 (below_size (by repeat (first | (with_reducible first | exact HB.out | apply below_alloc | apply pw_below_drewN | apply below_drew1 | refine below_set ?_ GE134.out) | exact HB.out))))
             have n3_ := Aside0.mk (blk_below (g := gB) (o := _) (by (with_reducible repeat (first | refine blk_drewN ?_ _ | refine blk_drew ?_ | refine blk_alloc ?_ _)); exact BK134.out) hb)
             have n4_ := Aside0.mk (below_step (by repeat (first | (with_reducible first | exact HB.out | apply below_alloc | apply pw_below_drewN | apply below_drew1 | refine below_set ?_ GE134.out) | exact HB.out)) hb)
             clear HO_19
             clear HO_31
             clear BK134
             clear HB
             have HO_19 := n0_
             have HO_31 := n1_
             have HO153 := n2_
             have BK134 := n3_
             have HB := n4_
             clear n0_ n1_ n2_ n3_ n4_
             (try clear hb)
             (try clear hb2)
             (try clear hk)
             (try clear hi)
             (try clear ho0)
             obtain ⟨Ao64, co64, eo64⟩ := Kd.R_slice HO153.out
             (first | subst eo64 | (injection eo64 with f1_ f2_ f3_; have f4_ := f1_.symm; have f5_ := f3_.symm; clear f1_ f2_ f3_; subst f4_; subst f5_))
             refine hK.out _ _ ⟨HS0_, HS1_, HS2_, HS3_, HS4_, HS5_, HS6_, HS7_, HS8_⟩ (fun hHeld => ?_)
             clear hK K
             refine norm_ (a' := ?_) ?_ ?_
             rotate_left
             ·show Act.put _ (some 112) _ = _
              simp only [Act.put, List.setIfInBounds_toArray, List.set_cons_zero, List.set_cons_succ, i64_w, i32_w]
              rfl
             refine pure_ (i := 12) (N := some 113) (v := ?_) (a' := ?_) #[true, true, true, true, true, true, true, true, true, true, true, true, true, false, false, false] rfl rfl (any_of HT_.out (by kernel_rfl)) (fun _ _ _ h => h) (Or.inl ⟨by rfl, ?_⟩) ?_ ?_
             rotate_left
             ·intro w'
              go_simp
              with_reducible rfl
             rotate_left
             ·simp only [Act.put, List.setIfInBounds_toArray, List.set_cons_zero, List.set_cons_succ, i64_w, i32_w]
              rfl
             refine last_ (i := 13) (N := some 114) #[true, true, true, true, true, true, true, true, true, true, true, true, true, true, false, false] rfl rfl (one_of HT_.out (by kernel_rfl)) (by decide) (fun K hK => ?_)
             refine value_ (w1 := ?_) (v := ?_) (by rfl) rfl ?_ ?_
             rotate_left 2
             ·go_simp
              constructor
              ·rfl
              ·rfl
             refine hK.out _ _ ?_
             clear hK K
             refine norm_ (a' := ?_) ?_ ?_
             rotate_left
             ·show Act.put _ (some 114) _ = _
              simp only [Act.put, List.setIfInBounds_toArray, List.set_cons_zero, List.set_cons_succ, i64_w, i32_w]
              rfl
             refine last_ (i := 14) (N := some 115) #[true, true, true, true, true, true, true, true, true, true, true, true, true, true, true, false] rfl rfl (one_of HT_.out (by kernel_rfl)) (by decide) (fun K hK => ?_)
             refine Kd.S_append_step k43 (w0 := w) w.heap.size (by rfl) (.tmp 101) (.tmp 114) 30 43 (.agg #[(.int .i64 0), (.slice none 0 0)]) 32 rfl Try.underlying30 info43 rfl (by decide) (by omega) u19 x19_2 (⟨(rd_T60 x31_1 x20_2).f0, t151⟩ : S43) [.int .i64 ((rd_T60 x31_1 x20_2).f0), .slice Ao64 t151.length co64] (fun _ => True) (fun k_ => some k_ = (.slice Ao64 t151.length co64 : Value).ownBlock) rfl rfl ?aP (fun k_ hk_ => ((Kd.R_mono (ok' := fun k_ => ((fun _ => True)) k_ ∧ some k_ ≠ (u19 : Value).ownBlock) (Kd.R_apart' (HO153.out) (Kd.S_typed HO_19.out) (by decide)) (fun k_ hk => ⟨trivial, hk.2⟩))).1 k_ hk_.symm) ?aF ?aO ?aB ?aS ?aL ?_
             (case aP => exact k43_mkM _ _ _ (⟨(rd_T60 x31_1 x20_2).f0, t151⟩ : S43) (Kd.R_mono (Kd.R_tight rfl (Kd.R_mono (ok' := fun k_ => ((fun _ => True)) k_ ∧ some k_ ≠ (u19 : Value).ownBlock) (Kd.R_apart' (HO153.out) (Kd.S_typed HO_19.out) (by decide)) (fun k_ hk => ⟨trivial, hk.2⟩))) (fun _ h_ => h_)))
             (case aB => exact (by repeat (first | (with_reducible first | exact HB.out | apply below_alloc | apply pw_below_drewN | apply below_drew1 | refine below_set ?_ GE134.out) | exact HB.out)))
             (case aF => exact (fun _ _ => trivial))
             (case aO => exact (by (with_reducible repeat (first | apply Kd.S_alloc | apply Kd.S_drewN | apply Kd.S_drew)); exact Kd.S_mono HO_19.out (fun k_ hk => ⟨trivial, fun e_ => hk.2 e_⟩)))
             (case aS => exact (below_size (by repeat (first | (with_reducible first | exact HB.out | apply below_alloc | apply pw_below_drewN | apply below_drew1 | refine below_set ?_ GE134.out) | exact HB.out))))
             (case aL => have := LMc61.out; omega)
             intro v155 w65 ho hb hg hat
             rw [← Ny154.out] at ho
             have n0_ := Aside0.mk (Kd.R_over' (by (with_reducible repeat (first | apply Kd.R_alloc | apply Kd.R_drewN | apply Kd.R_drew)); exact HO_31.out) (Kd.S_typed (by (with_reducible repeat (first | apply Kd.S_alloc | apply Kd.S_drewN | apply Kd.S_drew)); exact HO_19.out)) (by decide) hg)
             have n1_ := Aside0.mk (blk_grown (g := gB) (o := _) (by (with_reducible repeat (first | refine blk_drewN ?_ _ | refine blk_drew ?_ | refine blk_alloc ?_ _)); exact BK134.out) hg (Kd.S_ne HO_19.out BK134.out (by decide)))
             have n2_ := Aside0.mk (hb)
             have n3_ := Aside0.mk (ho)
             clear HO_31
             clear BK134
             clear HB
             clear HO_19
             clear HO153
             have HO_31 := n0_
             have BK134 := n1_
             have HB := n2_
             have HO156 := n3_
             clear n0_ n1_ n2_ n3_
             clear ho hb hg hat
             refine hK.out _ _ ?_
             clear hK K
             refine norm_ (a' := ?_) ?_ ?_
             rotate_left
             ·show Act.put _ (some 115) _ = _
              simp only [Act.put, List.setIfInBounds_toArray, List.set_cons_zero, List.set_cons_succ, i64_w, i32_w]
              rfl
             refine pure_ (i := 15) (N := some 19) (v := ?_) (a' := ?_) #[true, true, true, true, true, true, true, true, true, true, true, true, true, true, true, true] rfl rfl (any_of HT_.out (by kernel_rfl)) (fun _ _ _ h => h) (Or.inl ⟨by rfl, ?_⟩) ?_ ?_
             rotate_left
             ·intro w'
              go_simp
              with_reducible rfl
             rotate_left
             ·simp only [Act.put, List.setIfInBounds_toArray, List.set_cons_zero, List.set_cons_succ, i64_w, i32_w]
              rfl
             refine done_ (done_of HT_.out (by kernel_rfl)) ?_
             have p157 : 0 ≤ (x20_2 : Int) := of_decide_eq_true (by first | (with_reducible assumption) | assumption)
             have q157 : x20_2 < (x31_1.length : Int) := of_decide_eq_true (by first | (with_reducible assumption) | assumption)
             obtain ⟨ad157, e157, hx157_0, hx157_1, hx157_2, hx157_3⟩ := at_T60 (Kd.R_reads' HO_31.out).2.2 x20_2 p157 q157
             obtain rfl : ad149 = ad157 := (by injection e157)
             replace p157 := eq_true p157
             replace q157 := eq_true q157
             have fBy := (show w65.cell? ⟨gB, 0, none⟩ = some (.slice (some ad149) x31_1.length co56) from (blk_cell BK134.out 0).trans rfl)
             try go_wp2
             go_roundg k2
             case measure => have := HK1.out; have := HK2.out; omega
             case rel => exact ⟨(y154), (Go.bits .andNot .i64 x20_2 ((rd_T60 x31_1 x20_2).f1)), (by first | rfl | (simp; done) | (simp [*]; done)), H', ⟨by have := HK1.out; have := HK2.out; omega⟩, ⟨by (with_reducible repeat (first | apply Kd.S_alloc | apply Kd.S_drewN | apply Kd.S_drew)); exact HO156.out⟩, ⟨by (with_reducible repeat (first | apply Kd.R_alloc | apply Kd.R_drewN | apply Kd.R_drew)); exact HO_31.out⟩, ⟨by (with_reducible repeat (first | refine blk_drewN ?_ _ | refine blk_drew ?_ | refine blk_alloc ?_ _)); exact BK134.out⟩, ⟨by repeat (first | (with_reducible first | exact HB.out | apply below_alloc | apply pw_below_drewN | apply below_drew1 | refine below_set ?_ GE134.out) | exact HB.out)⟩⟩
            ·rw [if_neg c61] at H
             exact absurd H (by simp)
           ·rw [if_neg c59] at H
            exact absurd H (by simp)
          ·rw [if_neg c58] at H
           exact absurd H (by simp)
         ·rw [if_neg c57] at H
          have c57b0 : decide (0 < x20_2) = false := decide_eq_false c57
          clear c57
          obtain ⟨ji66, hji66⟩ : ∃ j_ : Int, (wrap64 ((x31_1.length : Int) - 1)) = j_ := ⟨_, rfl⟩
          replace H : (if 0 ≤ (ji66) then (if (ji66) < (x31_1.length : Int) then (some (x19_2, (rd_T60 x31_1 (ji66)).f2, 0)) else (none)) else (none)) = some (r1, r2, r3) := by first | (rw [hji66] at H; exact H) | (simp only [hji66] at H ⊢; exact H)
          have hji66w : (IntKind.i64.wrap ((x31_1.length : Int) - 1)) = ji66 := (i64_w _).trans hji66
          by_cases c67 : 0 ≤ (ji66)
          ·rw [if_pos c67] at H
           have c67b0 : decide (0 ≤ (ji66)) = true := decide_eq_true c67
           clear c67
           by_cases c68 : (ji66) < (x31_1.length : Int)
           ·rw [if_pos c68] at H
            have c68b0 : decide ((ji66) < (x31_1.length : Int)) = true := decide_eq_true c68
            clear c68
            simp only [Option.some.injEq, Prod.mk.injEq] at H
            obtain ⟨rfl, rfl, rfl⟩ := H
            try go_wp2
            have n0_ := Aside0.mk (Kd.S_drew HO_19.out)
            have n1_ := Aside0.mk (Kd.R_drew HO_31.out)
            have n2_ := Aside0.mk (blk_drew BK134.out)
            have n3_ := Aside0.mk (below_drew1 HB.out)
            clear HO_19
            clear HO_31
            clear BK134
            clear HB
            have HO_19 := n0_
            have HO_31 := n1_
            have BK134 := n2_
            have HB := n3_
            clear n0_ n1_ n2_ n3_
            have p158 : 0 ≤ ((ji66) : Int) := of_decide_eq_true (by first | (with_reducible assumption) | assumption)
            have q158 : (ji66) < (x31_1.length : Int) := of_decide_eq_true (by first | (with_reducible assumption) | assumption)
            obtain ⟨ad158, e158, hx158_0, hx158_1, hx158_2, hx158_3⟩ := at_T60 (Kd.R_reads' HO_31.out).2.2 (ji66) p158 q158
            cases e158
            replace p158 := eq_true p158
            replace q158 := eq_true q158
            have fBx := (show wr.drew.cell? ⟨gB, 0, none⟩ = some (.slice (some ad158) x31_1.length co56) from (blk_cell BK134.out 0).trans rfl)
            refine start_ (n := 11) (S := fun w' => w'.cell? (ad158.add (((ji66)).toNat * 4)) = some (.int .i64 ((rd_T60 x31_1 (ji66)).f0)) ∧ w'.cell? ⟨(ad158.add (((ji66)).toNat * 4)).block, (ad158.add (((ji66)).toNat * 4)).off + 1, none⟩ = some (.int .i64 ((rd_T60 x31_1 (ji66)).f1)) ∧ w'.cell? ⟨(ad158.add (((ji66)).toNat * 4)).block, (ad158.add (((ji66)).toNat * 4)).off + 2, none⟩ = some (.int .i64 ((rd_T60 x31_1 (ji66)).f2)) ∧ w'.cell? ⟨(ad158.add (((ji66)).toNat * 4)).block, (ad158.add (((ji66)).toNat * 4)).off + 3, none⟩ = some (.int .i64 ((rd_T60 x31_1 (ji66)).f3)) ∧ w'.cell? ⟨gB, 0, none⟩ = some (.slice (some ad158) x31_1.length co56)) (ds := []) #[false, false, false, false, false, false, false, false, false, false, false] (by kernel_rfl) rfl rfl ⟨hx158_0, hx158_1, hx158_2, hx158_3, fBx⟩ (fun hHeld => ?_); refine with_tabW group_Best.tab29 group_Best.bits29 (fun HT_ HW_ => ?_)
            generalize wr.drew = w69 at HO_19 HO_31 BK134 HB hx158_0 hx158_1 hx158_2 hx158_3 fBx hHeld ⊢
            refine pure_ (i := 0) (N := some 116) (v := ?_) (a' := ?_) #[true, false, false, false, false, false, false, false, false, false, false] rfl rfl (any_of HT_.out (by kernel_rfl)) (fun _ _ _ h => h) (Or.inl ⟨by rfl, ?_⟩) ?_ ?_
            rotate_left
            ·intro w'
             go_simp
             with_reducible rfl
            rotate_left
            ·simp only [Act.put, List.setIfInBounds_toArray, List.set_cons_zero, List.set_cons_succ, i64_w, i32_w]
             rfl
            refine take_ (i := 1) (N := some 117) (v := ?_) (a' := ?_) #[true, true, false, false, false, false, false, false, false, false, false] rfl rfl (take_ofW HT_.out HW_.out (by kernel_rfl)) (fun _ _ _ h => h) (Or.inl ⟨by rfl, ?_⟩) hHeld ?_ ?_
            rotate_left
            ·rintro w' ⟨s0, s1, s2, s3, s4⟩
             go_simp
             with_reducible rfl
            rotate_left
            ·simp only [Act.put, List.setIfInBounds_toArray, List.set_cons_zero, List.set_cons_succ, i64_w, i32_w]
             rfl
            refine take_ (i := 2) (N := some 118) (v := ?_) (a' := ?_) #[true, true, true, false, false, false, false, false, false, false, false] rfl rfl (take_ofW HT_.out HW_.out (by kernel_rfl)) (fun _ _ _ h => h) (Or.inl ⟨by rfl, ?_⟩) hHeld ?_ ?_
            rotate_left
            ·rintro w' ⟨s0, s1, s2, s3, s4⟩
             go_simp
             with_reducible rfl
            rotate_left
            ·simp only [Act.put, List.setIfInBounds_toArray, List.set_cons_zero, List.set_cons_succ, i64_w, i32_w]
             rfl
            refine pure_ (i := 3) (N := some 119) (v := ?_) (a' := ?_) #[true, true, true, true, false, false, false, false, false, false, false] rfl rfl (any_of HT_.out (by kernel_rfl)) (fun _ _ _ h => h) (Or.inl ⟨by rfl, ?_⟩) ?_ ?_
            rotate_left
            ·intro w'
             go_simp
             with_reducible rfl
            rotate_left
            ·simp only [Act.put, List.setIfInBounds_toArray, List.set_cons_zero, List.set_cons_succ, i64_w, i32_w]
             rfl
            refine pure_ (i := 4) (N := some 120) (v := ?_) (a' := ?_) #[true, true, true, true, true, false, false, false, false, false, false] rfl rfl (any_of HT_.out (by kernel_rfl)) (fun _ _ _ h => h) (Or.inl ⟨by rfl, ?_⟩) ?_ ?_
            rotate_left
            ·intro w'
             go_simp
             with_reducible rfl
            rotate_left
            ·simp only [Act.put, List.setIfInBounds_toArray, List.set_cons_zero, List.set_cons_succ, i64_w, i32_w]
             rfl
            refine pure_ (i := 5) (N := some 121) (v := ?_) (a' := ?_) #[true, true, true, true, true, true, false, false, false, false, false] rfl rfl (any_of HT_.out (by kernel_rfl)) (fun _ _ _ h => h) (Or.inl ⟨by rfl, ?_⟩) ?_ ?_
            rotate_left
            ·intro w'
             go_simp
             with_reducible rfl
            rotate_left
            ·simp only [Act.put, List.setIfInBounds_toArray, List.set_cons_zero, List.set_cons_succ, i64_w, i32_w]
             rfl
            refine pure_ (i := 6) (N := some 122) (v := ?_) (a' := ?_) #[true, true, true, true, true, true, true, false, false, false, false] rfl rfl (any_of HT_.out (by kernel_rfl)) (fun _ _ _ h => h) (Or.inl ⟨by rfl, ?_⟩) ?_ ?_
            rotate_left
            ·intro w'
             go_simp
             with_reducible rfl
            rotate_left
            ·simp only [Act.put, List.setIfInBounds_toArray, List.set_cons_zero, List.set_cons_succ, i64_w, i32_w]
             rfl
            refine pure_ (i := 8) (N := some 6) (v := ?_) (a' := ?_) #[true, true, true, true, true, true, true, false, true, false, false] rfl rfl (any_of HT_.out (by kernel_rfl)) (fun _ _ _ h => h) (Or.inl ⟨by rfl, ?_⟩) ?_ ?_
            rotate_left
            ·intro w'
             go_simp
             with_reducible rfl
            rotate_left
            ·simp only [Act.put, List.setIfInBounds_toArray, List.set_cons_zero, List.set_cons_succ, i64_w, i32_w]
             rfl
            refine take_ (i := 7) (N := some 123) (v := ?_) (a' := ?_) #[true, true, true, true, true, true, true, true, true, false, false] rfl rfl (take_ofW HT_.out HW_.out (by kernel_rfl)) (fun _ _ _ h => h) (Or.inl ⟨by rfl, ?_⟩) hHeld ?_ ?_
            rotate_left
            ·rintro w' ⟨s0, s1, s2, s3, s4⟩
             go_simp
             with_reducible rfl
            rotate_left
            ·simp only [Act.put, List.setIfInBounds_toArray, List.set_cons_zero, List.set_cons_succ, i64_w, i32_w]
             rfl
            refine pure_ (i := 9) (N := some 7) (v := ?_) (a' := ?_) #[true, true, true, true, true, true, true, true, true, true, false] rfl rfl (any_of HT_.out (by kernel_rfl)) (fun _ _ _ h => h) (Or.inl ⟨by rfl, ?_⟩) ?_ ?_
            rotate_left
            ·intro w'
             go_simp
             with_reducible rfl
            rotate_left
            ·simp only [Act.put, List.setIfInBounds_toArray, List.set_cons_zero, List.set_cons_succ, i64_w, i32_w]
             rfl
            refine pure_ (i := 10) (N := some 8) (v := ?_) (a' := ?_) #[true, true, true, true, true, true, true, true, true, true, true] rfl rfl (any_of HT_.out (by kernel_rfl)) (fun _ _ _ h => h) (Or.inl ⟨by rfl, ?_⟩) ?_ ?_
            rotate_left
            ·intro w'
             go_simp
             with_reducible rfl
            rotate_left
            ·simp only [Act.put, List.setIfInBounds_toArray, List.set_cons_zero, List.set_cons_succ, i64_w, i32_w]
             rfl
            refine done_ (done_of HT_.out (by kernel_rfl)) ?_
            try go_wp2
            go_ret3
            exact ⟨_, by first | rfl | (simp [errW_none, errW_some] <;> rfl) | (simp only [← hji6, ← hji66]; first | rfl | (simp [errW_none, errW_some] <;> rfl)) | (simp [*, errW_none, errW_some] <;> rfl), by (with_reducible repeat (first | apply Kd.S_alloc | apply Kd.S_drewN | apply Kd.S_drew)); exact HO_19.out, by repeat (first | (with_reducible first | exact HB.out | apply below_alloc | apply pw_below_drewN | apply below_drew1 | refine below_set ?_ GE134.out) | exact HB.out)⟩
           ·rw [if_neg c68] at H
            exact absurd H (by simp)
          ·rw [if_neg c67] at H
           exact absurd H (by simp)
   ·rw [if_neg c8] at H
    exact absurd H (by simp)
  ·rw [if_neg c7] at H
   exact absurd H (by simp)
 ·rw [if_neg c5] at H
  have c5b0 : (t130 == 0) = false := beq_eq_false_iff_ne.mpr c5
  have c5b1 : (t130 != 0) = true := bne_iff_ne.mpr c5
  simp only [Option.some.injEq, Prod.mk.injEq] at H
  obtain ⟨rfl, rfl, rfl⟩ := H
  go_enter Try.func22, Try.ntmps22
  go_wp2_with (first | ((with_reducible refine gate_callee (f := 12) rfl ?_); refine goesL_ (some 24) rfl rfl Try.func12 (by kernel_rfl) rfl #[.slice A0 l0.length c0, .slice A1 l1.length c1, .slice A2 l2.length c2] rfl (by (try simp only [List.map_toArray, List.map_cons, List.map_nil]); first | done | rfl | (simp only [List.length_drop, List.length_take]; rfl)) ?_; (with_reducible refine (group_Right.calls k _ _ l0 _ _ l1 _ _ l2 t130 _ ?side1 ?side2 ?side3 ?side4 ?side5 ?side6 A4.out).mono ?_); (case side1 => repeat (first | exact HR0.out | (with_reducible refine Kd.C_alloc ?_ _) | (with_reducible refine Kd.C_drewN ?_ _) | (with_reducible refine Kd.C_drew ?_))); (case side2 => exact HC0.out); (case side3 => repeat (first | exact HR1.out | (with_reducible refine Kd.C_alloc ?_ _) | (with_reducible refine Kd.C_drewN ?_ _) | (with_reducible refine Kd.C_drew ?_))); (case side4 => exact HC1.out); (case side5 => repeat (first | exact HR2.out | (with_reducible refine Kd.C_alloc ?_ _) | (with_reducible refine Kd.C_drewN ?_ _) | (with_reducible refine Kd.C_drew ?_))); (case side6 => exact HC2.out); rintro e w70 ⟨rfl, hb⟩; refine ⟨_, rfl, ?_⟩; have n0_ := Aside0.mk (below_step (by repeat (first | (with_reducible first | exact HB.out | apply below_alloc | apply pw_below_drewN | apply below_drew1) | exact HB.out)) hb); clear HB; have HB := n0_; clear n0_; (try clear hb); (try clear hb2); (try clear hk); (try clear hi)))
  go_ret3
  exact ⟨_, by first | rfl | (simp [errW_none, errW_some] <;> rfl) | (simp [*, errW_none, errW_some] <;> rfl), by first | exact Kd.S_nil _ _ _ _ _ | exact Kd.N_nil _ _ _ _ _ | exact Kd.V_nil _ _ _ _ _ | exact Kd.Q_nil _ _ _ _ _ | exact Kd.R_nil _ _ _ _ _, by repeat (first | (with_reducible first | exact HB.out | apply below_alloc | apply pw_below_drewN | apply below_drew1) | exact HB.out)⟩

end Go.Proofs.Ytdklkjgcnibbgaa.A
