-- PRINTED by print.py (a twelfth state) out of the translation. Not trusted: Lean checks it.
import Derived.Test.YtibmbffhlicpaaaAx0
import Derived.Test.YtibmbffhlicpaaaAx8
namespace Go.Proofs.Ytibmbffhlicpaaa.A
open Go.RowKit Go.Proofs.YtibmbffhlicpaaaW.PrintWords Go.Proofs.YtibmbffhlicpaaaW.PrintLast Go.Proofs.YtibmbffhlicpaaaW.PrintMore
attribute [local go_sem] max2_int min2_int max_two min_two max_three min_three max_four min_four   -- for this text's walks alone
set_option linter.unusedVariables false
set_option linter.unusedSimpArgs false

/-! ### bulletin_Worst: function 21 -/
theorem wrap_id {x : Int} (h : -9223372036854775808 ≤ x ∧ x ≤ 9223372036854775807) : wrap64 x = x := by unfold wrap64; omega
theorem wS (j n : Nat) (h : n ≤ 9223372036854775807) (hj : j < n) : wrap64 ((j : Int) + 1) = ((j + 1 : Nat) : Int) := by rw [wrap_id (by omega)]; rfl
def covB (b : S31) (t : Int) : Bool := decide (b.f1.f0 ≤ t ∧ t < b.f1.f1)
/-- The greatest version of the first k bulletins that cover t. -/
def curTo (l : List S31) (t : Int) : Nat → Int
 | 0 => 0
 | k + 1 => if covB (rd_T31 l k) t = true then mx (curTo l t k) (rd_T31 l k).f0 else curTo l t k
def curV (l : List S31) (t : Int) : Int := curTo l t l.length
theorem cur_l0 (l : List S31) (t : Int) (hl : l.length ≤ 9223372036854775807) (d : Nat) : ∀ j : Nat, l.length - j = d → j ≤ l.length → Ev (fun k => bulletin_Current.l0 k t (curTo l t j) l l.length j) (curV l t) := by
 induction d with
 | zero =>
  intro j hd hj
  obtain rfl : j = l.length := by omega
  refine Ev.step (fun k => by rw [bulletin_Current.l0, if_neg (by omega)]) ?_
  exact Ev.now _
 | succ d ih =>
  intro j hd hj
  have hn := ih (j + 1) (by omega) (by omega)
  by_cases h1 : (rd_T31 l j).f1.f0 ≤ t
  ·by_cases h2 : t < (rd_T31 l j).f1.f1
   ·have hc : curTo l t (j + 1) = mx (curTo l t j) (rd_T31 l j).f0 := by rw [curTo, if_pos (by simp [covB, h1, h2])]
    rw [hc] at hn
    exact Ev.step (fun k => by rw [bulletin_Current.l0, if_pos (by omega), if_pos (by omega), if_pos (by omega), if_pos h1, if_pos h2, wS j _ hl (by omega)]) hn
   ·have hc : curTo l t (j + 1) = curTo l t j := by rw [curTo, if_neg (by simp [covB, h2])]
    rw [hc] at hn
    exact Ev.step (fun k => by rw [bulletin_Current.l0, if_pos (by omega), if_pos (by omega), if_pos (by omega), if_pos h1, if_neg h2, wS j _ hl (by omega)]) hn
  ·have hc : curTo l t (j + 1) = curTo l t j := by rw [curTo, if_neg (by simp [covB, h1])]
   rw [hc] at hn
   exact Ev.step (fun k => by rw [bulletin_Current.l0, if_pos (by omega), if_pos (by omega), if_pos (by omega), if_neg h1, wS j _ hl (by omega)]) hn
theorem cur_ev (l : List S31) (t : Int) (hl : l.length ≤ 9223372036854775807) : Ev (fun k => bulletin_Current.f k l t) (curV l t) := cur_l0 l t hl l.length 0 (by omega) (by omega)
theorem cur_calls (A : Option Addr) (c : Nat) (l : List S31) (t : Int) (w : World) (hr : Kd.C k31 w A l.length l) (hc : l.length ≤ c) :
  Calls Try.prog 17 #[.slice A l.length c, .int .i64 t] w fun e w' => e = .returned (.int .i64 (curV l t)) ∧ Below w.heap.size w w' := by
 obtain ⟨k, hk⟩ := (cur_ev l t hr.2.1).rounds
 exact bulletin_Current.calls k A c l t _ w hr hc hk
/-- The greatest level of the first k bulletins of version v that cover t and meet m. -/
def grTo (m : S31 → Bool) (v t : Int) (l : List S31) : Nat → Int
 | 0 => 0
 | k + 1 => if (rd_T31 l k).f0 = v ∧ covB (rd_T31 l k) t = true ∧ m (rd_T31 l k) = true then mx (grTo m v t l k) (rd_T31 l k).f5 else grTo m v t l k
def grV (m : S31 → Bool) (l : List S31) (t : Int) : Int := grTo m (curV l t) t l l.length
theorem gr_no {m : S31 → Bool} {v t : Int} {l : List S31} {k : Nat} (h : ¬ ((rd_T31 l k).f0 = v ∧ covB (rd_T31 l k) t = true ∧ m (rd_T31 l k) = true)) : grTo m v t l (k + 1) = grTo m v t l k := by rw [grTo, if_neg h]
theorem gr_yes {m : S31 → Bool} {v t : Int} {l : List S31} {k : Nat} (h : (rd_T31 l k).f0 = v ∧ covB (rd_T31 l k) t = true ∧ m (rd_T31 l k) = true) : grTo m v t l (k + 1) = mx (grTo m v t l k) (rd_T31 l k).f5 := by rw [grTo, if_pos h]
def allB (b : S31) : Bool := true
set_option maxHeartbeats 400000 in
theorem clo34 (x : S31) (A5 : Option Addr) (c5 : Nat) (w : World) :
  Calls Try.prog 34 #[.agg #[.int .i64 x.f0, .int .i64 x.f1.f0, .int .i64 x.f1.f1, .int .i64 x.f2, .int .i64 x.f3, .slice A5 x.f4.length c5, .int .i64 x.f5]] w fun e w' => e = .returned (.bool true) ∧ Below w.heap.size w w' := by
 have hb : Below w.heap.size w w := Below.refl _ _
 go_enter Try.func34, Try.ntmps34
 go_wp2
 go_ret
 exact ⟨rfl, by repeat (first | (with_reducible first | exact hb | apply below_alloc))⟩
set_option maxHeartbeats 2000000 in
set_option maxRecDepth 100000 in
theorem gr34 (A : Option Addr) (c : Nat) (l : List S31) (t : Int) (w : World) (hr : Kd.C k31 w A l.length l) (hc : l.length ≤ c) :
  Calls Try.prog 33 #[.slice A l.length c, .int .i64 t, .func (.func 34) #[] #[]] w fun e w' => e = .returned (.int .i64 (grV allB l t)) ∧ Below w.heap.size w w' := by
 have hu31 := Try.underlying31
 have hl : l.length ≤ 9223372036854775807 := hr.2.1
 have HR := Aside0.mk hr
 have HC := Aside0.mk hc
 have C17 := Aside0.mk (cur_calls A c l t w hr hc)
 clear hr hc
 go_enter Try.func33, Try.ntmps33
 go_wp2_with (go_at_call 17; (with_reducible refine C17.out.mono ?_); rintro e w' ⟨rfl, hb⟩; have HB := Aside0.mk hb; clear hb)
 go_loopw [8, 16] (fun v8 v16 wr => ∃ k : Nat, k ≤ l.length ∧ v16 = .int .i64 k ∧ v8 = .int .i64 (grTo allB (curV l t) t l k) ∧ Aside0 (Below w.heap.size w wr)) (fun _ v16 _ => l.length - (intOf v16).toNat)
 case atStart => exact ⟨0, Nat.zero_le _, rfl, rfl, HB⟩
 case round =>
  clear HB
  obtain ⟨k, hk, rfl, rfl, HB⟩ := hrel
  by_cases hlt : k < l.length
  ·obtain ⟨ad, A5, c5, rfl, x0, x1, x2, x3, x4, x5, x6, hlc, hin⟩ := at_T31 HR.out (k : Int) (by omega) (by omega)
   rw [Int.toNat_natCast] at x0 x1 x2 x3 x4 x5 x6
   replace x0 := (HB.out.cell (World.block_lt_of_cell? w _ x0)).trans x0
   replace x1 := (HB.out.cell (World.block_lt_of_cell? w _ x1)).trans x1
   replace x2 := (HB.out.cell (World.block_lt_of_cell? w _ x2)).trans x2
   replace x3 := (HB.out.cell (World.block_lt_of_cell? w _ x3)).trans x3
   replace x4 := (HB.out.cell (World.block_lt_of_cell? w _ x4)).trans x4
   replace x5 := (HB.out.cell (World.block_lt_of_cell? w _ x5)).trans x5
   replace x6 := (HB.out.cell (World.block_lt_of_cell? w _ x6)).trans x6
   clear hin hlc
   by_cases h0 : (rd_T31 l k).f0 = curV l t
   ·by_cases h1 : (rd_T31 l k).f1.f0 ≤ t
    ·by_cases h2 : t < (rd_T31 l k).f1.f1
     ·have hcv : covB (rd_T31 l k) t = true := by simp [covB, h1, h2]
      have hg := Aside0.mk (gr_yes (m := allB) (v := curV l t) (t := t) (l := l) (k := k) ⟨h0, hcv, rfl⟩)
      have h0b : ((rd_T31 l k).f0 == curV l t) = true := beq_iff_eq.2 h0
      clear h0 hcv
      go_wp2_with (go_at_call 34; (with_reducible refine (clo34 (rd_T31 l k) A5 c5 _).mono ?_); rintro e w2 ⟨rfl, hb2⟩; have y6 : w2.cell? ⟨wr.heap.size, 6, none⟩ = some (.int .i64 (rd_T31 l k).f5) := (hb2.cell (p := ⟨wr.heap.size, 6, none⟩) (by simp)).trans (by simp); have HB2 := Aside0.mk (below_step (below_alloc HB.out _) hb2); clear hb2)
      exact ⟨⟨k + 1, hlt, rfl, by rw [hg.out]; rfl, HB2⟩, by simp [intOf]; omega⟩
     ·have hg := Aside0.mk (gr_no (m := allB) (v := curV l t) (t := t) (l := l) (k := k) (fun h => by have := h.2.1; simp [covB, h2] at this))
      have h0b : ((rd_T31 l k).f0 == curV l t) = true := beq_iff_eq.2 h0
      have h2' : (rd_T31 l k).f1.f1 ≤ t := by omega
      clear h0 h2
      go_wp2
      exact ⟨⟨k + 1, hlt, rfl, by rw [hg.out], ⟨by repeat (first | (with_reducible first | exact HB.out | apply below_alloc))⟩⟩, by simp [intOf]; omega⟩
    ·have hg := Aside0.mk (gr_no (m := allB) (v := curV l t) (t := t) (l := l) (k := k) (fun h => by have := h.2.1; simp [covB, h1] at this))
     have h0b : ((rd_T31 l k).f0 == curV l t) = true := beq_iff_eq.2 h0
     have h1' : t < (rd_T31 l k).f1.f0 := by omega
     clear h0 h1
     go_wp2
     exact ⟨⟨k + 1, hlt, rfl, by rw [hg.out], ⟨by repeat (first | (with_reducible first | exact HB.out | apply below_alloc))⟩⟩, by simp [intOf]; omega⟩
   ·have hg := Aside0.mk (gr_no (m := allB) (v := curV l t) (t := t) (l := l) (k := k) (fun h => h0 h.1))
    have h0b : ((rd_T31 l k).f0 == curV l t) = false := beq_eq_false_iff_ne.2 h0
    clear h0
    go_wp2
    exact ⟨⟨k + 1, hlt, rfl, by rw [hg.out], ⟨by repeat (first | (with_reducible first | exact HB.out | apply below_alloc))⟩⟩, by simp [intOf]; omega⟩
  ·obtain rfl : k = l.length := by omega
   go_wp2
   go_ret
   exact ⟨rfl, HB.out⟩
def bulletin_Worst.f (l0 : List S31) (a1 : Int) : Option Int := some (grV allB l0 a1)
set_option maxHeartbeats 400000 in
theorem bulletin_Worst.calls (A0 : Option Addr) (c0 : Nat) (l0 : List (S31)) (a1 : Int) (r : Int) (w : World) (hr0 : Kd.C k31 w A0 l0.length l0) (hc0 : l0.length ≤ c0) (h : bulletin_Worst.f l0 a1 = some r) :
  Calls Try.prog 21 #[.slice A0 l0.length c0, .int .i64 a1] w fun e w' => e = .returned (.int .i64 r) ∧ Below w.heap.size w w' := by
 obtain rfl := Option.some.inj h
 have C := Aside0.mk (gr34 A0 c0 l0 a1 w hr0 hc0)
 clear hr0 hc0 h
 go_enter Try.func21, Try.ntmps21
 go_wp2_with (go_at_call 33; (with_reducible refine C.out.mono ?_); rintro e w' ⟨rfl, hb⟩; have HB := Aside0.mk hb; clear hb)
 go_ret
 exact ⟨rfl, HB.out⟩

end Go.Proofs.Ytibmbffhlicpaaa.A
