-- PRINTED by print.py (a twelfth state) out of the translation. Not trusted: Lean checks it.
import Derived.Test.YtibmbffhlicpaaaAx0
import Derived.Test.YtibmbffhlicpaaaAx10
namespace Go.Proofs.Ytibmbffhlicpaaa.A
open Go.RowKit Go.Proofs.YtibmbffhlicpaaaW.PrintWords Go.Proofs.YtibmbffhlicpaaaW.PrintLast Go.Proofs.YtibmbffhlicpaaaW.PrintMore
attribute [local go_sem] max2_int min2_int max_two min_two max_three min_three max_four min_four   -- for this text's walks alone
set_option linter.unusedVariables false
set_option linter.unusedSimpArgs false

/-! ### bulletin_Level: function 23 -/
def lvlB (z lo hi : Int) (b : S31) : Bool := decide (b.f2 < hi) && (decide (lo < b.f3) && decide (z ∈ b.f4))
theorem first_at (l : List Int) (x : Int) : ∃ j : Nat, j ≤ l.length ∧ (∀ k : Nat, k < j → (x == rd l k) = false) ∧ (j < l.length → (x == rd l j) = true) := by
 induction l with
 | nil => exact ⟨0, Nat.le_refl _, fun k hk => absurd hk (by omega), fun h => absurd h (by simp)⟩
 | cons y ys ih =>
  obtain ⟨j, hj, h1, h2⟩ := ih
  cases hp : x == y with
  | true => exact ⟨0, Nat.zero_le _, fun k hk => absurd hk (by omega), fun _ => by simpa [rd] using hp⟩
  | false =>
   refine ⟨j + 1, by simpa using hj, fun k hk => ?_, fun h => ?_⟩
   ·cases k with
    | zero => simpa [rd] using hp
    | succ k => have := h1 k (by omega); simpa [rd] using this
   ·have := h2 (by simpa using h); simpa [rd] using this
set_option maxHeartbeats 1000000 in
theorem idx37 (A : Option Addr) (c : Nat) (l : List Int) (x : Int) (j : Nat) (w : World) (hr : Kd.C (Kd.int .i64) w A l.length l) (hm : l.length ≤ 9223372036854775807) (hj : j ≤ l.length)
  (hg : ∀ k : Nat, k < j → (x == rd l k) = false) (hb : j < l.length → (x == rd l j) = true) :
  Calls Try.prog 37 #[.slice A l.length c, .int .i64 x] w fun e w' => e = .returned (.int .i64 (if j < l.length then (j : Int) else -1)) ∧ Drawn0 w w' := by
 have HR := Aside0.mk hr
 have HG := Aside0.mk hg
 have HBD := Aside0.mk hb
 clear hr hg hb
 go_enter Try.func37, Try.ntmps37
 go_wp2
 go_loopw [8] (fun v8 wr => ∃ k : Nat, k ≤ j ∧ v8 = .int .i64 k ∧ Drawn0 w wr) (fun v8 _ => l.length - (intOf v8).toNat)
 case atStart => exact ⟨0, Nat.zero_le _, rfl, Drawn0.refl _⟩
 case round =>
  obtain ⟨k, hk, rfl, ⟨m1, rfl⟩⟩ := hrel
  by_cases hlt : k < l.length
  ·obtain ⟨ad, rfl, hx⟩ := Kd.at_int HR.out (k : Int) (by omega) (by omega)
   rw [Int.toNat_natCast] at hx
   by_cases hkj : k < j
   ·have C := HG.out k hkj
    go_wp2
    exact ⟨⟨k + 1, hkj, rfl, by repeat (first | exact Drawn0.refl _ | apply Drawn0.step)⟩, by simp [intOf]; omega⟩
   ·obtain rfl : k = j := by omega
    have C := HBD.out hlt
    go_wp2
    go_ret
    exact ⟨by first | rfl | (simp; done) | (simp [hlt]; done), by repeat (first | exact Drawn0.refl _ | apply Drawn0.step)⟩
  ·obtain rfl : k = l.length := by omega
   obtain rfl : j = l.length := by omega
   go_wp2
   go_ret
   exact ⟨by first | rfl | (simp; done) | (simp [hlt]; done), by repeat (first | exact Drawn0.refl _ | apply Drawn0.step)⟩
theorem mem_first {l : List Int} {x : Int} {j : Nat} (h1 : ∀ k : Nat, k < j → (x == rd l k) = false) (h2 : j < l.length → (x == rd l j) = true) : j < l.length ↔ x ∈ l := by
 constructor
 ·intro h
  have := h2 h
  rw [beq_iff_eq] at this
  rw [this]
  simp only [rd, Int.toNat_natCast, List.getD_eq_getElem?_getD, List.getElem?_eq_getElem h, Option.getD_some]
  exact List.getElem_mem h
 ·intro h
  obtain ⟨k, hk, he⟩ := List.getElem_of_mem h
  refine Classical.byContradiction fun hn => ?_
  have := h1 k (by omega)
  rw [beq_eq_false_iff_ne] at this
  apply this
  simp only [rd, Int.toNat_natCast, List.getD_eq_getElem?_getD, List.getElem?_eq_getElem hk, Option.getD_some]
  exact he.symm
theorem contains_calls (A : Option Addr) (c : Nat) (l : List Int) (x : Int) (w : World) (hr : Kd.C (Kd.int .i64) w A l.length l) (hc : l.length ≤ c) :
  Calls Try.prog 36 #[.slice A l.length c, .int .i64 x] w fun e w' => e = .returned (.bool (decide (x ∈ l))) ∧ Drawn0 w w' := by
 obtain ⟨j, hj, h1, h2⟩ := first_at l x
 have C := Aside0.mk (idx37 A c l x j w hr hr.2.1 hj h1 h2)
 have hm := mem_first h1 h2
 clear hr h1 h2
 by_cases hlt : j < l.length
 ·have hd := Aside0.mk (decide_eq_true (hm.1 hlt))
  rw [if_pos hlt] at C
  rw [hd.out]
  clear hm
  go_enter Try.func36, Try.ntmps36
  go_wp2_with (go_at_call 37; (with_reducible refine C.out.mono ?_); rintro e w' ⟨rfl, ⟨nd, rfl⟩⟩)
  go_ret
  exact ⟨by first | rfl | (simp; done), by repeat (first | exact Drawn0.refl _ | apply Drawn0.step)⟩
 ·have hd := Aside0.mk (decide_eq_false (fun h => hlt (hm.2 h)))
  rw [if_neg hlt] at C
  rw [hd.out]
  clear hm
  go_enter Try.func36, Try.ntmps36
  go_wp2_with (go_at_call 37; (with_reducible refine C.out.mono ?_); rintro e w' ⟨rfl, ⟨nd, rfl⟩⟩)
  go_ret
  exact ⟨by first | rfl | (simp; done), by repeat (first | exact Drawn0.refl _ | apply Drawn0.step)⟩
set_option maxHeartbeats 1000000 in
theorem clo35 (x : S31) (A5 : Option Addr) (c5 : Nat) (z lo hi : Int) (gh gl gz : Nat) (b : Bool) (w : World) (h0 : w.cell? ⟨gh, 0, none⟩ = some (.int .i64 hi)) (h1 : w.cell? ⟨gl, 0, none⟩ = some (.int .i64 lo)) (h2 : w.cell? ⟨gz, 0, none⟩ = some (.int .i64 z))
  (hr : Kd.C (Kd.int .i64) w A5 x.f4.length x.f4) (hc : x.f4.length ≤ c5) (hb : lvlB z lo hi x = b) :
  Calls Try.prog 35 #[.agg #[.int .i64 x.f0, .int .i64 x.f1.f0, .int .i64 x.f1.f1, .int .i64 x.f2, .int .i64 x.f3, .slice A5 x.f4.length c5, .int .i64 x.f5], .pointer (some ⟨gh, 0, none⟩), .pointer (some ⟨gl, 0, none⟩), .pointer (some ⟨gz, 0, none⟩)] w fun e w' => e = .returned (.bool b) ∧ Below w.heap.size w w' := by
 have hu31 := Try.underlying31
 have hbel : Below w.heap.size w w := Below.refl _ _
 have z0 : gh < w.heap.size := World.block_lt_of_cell? w _ h0
 have z1 : gl < w.heap.size := World.block_lt_of_cell? w _ h1
 have z2 : gz < w.heap.size := World.block_lt_of_cell? w _ h2
 have HR := Aside0.mk hr
 have HC := Aside0.mk hc
 clear hr hc
 by_cases c1 : x.f2 < hi
 ·by_cases c2 : lo < x.f3
  ·have e : b = decide (z ∈ x.f4) := by rw [← hb]; simp [lvlB, c1, c2]
   have E := Aside0.mk e
   clear e hb
   go_enter Try.func35, Try.ntmps35
   go_wp2_with (go_at_call 36; (with_reducible refine (contains_calls A5 c5 x.f4 z _ ?s1 HC.out).mono ?_); (case s1 => repeat (first | exact HR.out | (with_reducible refine Kd.C_alloc ?_ _))); rintro e w2 ⟨rfl, ⟨nd, rfl⟩⟩; rw [← E.out])
   go_ret
   exact ⟨by first | rfl | (simp; done), by repeat (first | (with_reducible first | exact hbel | apply below_alloc | apply pw_below_drewN))⟩
  ·have e : b = false := by rw [← hb]; simp [lvlB, c2]
   have c2' : x.f3 ≤ lo := by omega
   subst e
   clear hb c2
   go_enter Try.func35, Try.ntmps35
   go_wp2
   go_ret
   exact ⟨by first | rfl | (simp; done), by repeat (first | (with_reducible first | exact hbel | apply below_alloc | apply pw_below_drewN))⟩
 ·have e : b = false := by rw [← hb]; simp [lvlB, c1]
  have c1' : hi ≤ x.f2 := by omega
  subst e
  clear hb c1
  go_enter Try.func35, Try.ntmps35
  go_wp2
  go_ret
  exact ⟨by first | rfl | (simp; done), by repeat (first | (with_reducible first | exact hbel | apply below_alloc | apply pw_below_drewN))⟩
theorem heap_new {W : World} {o : Obj} {n : Nat} (h : W.heap.size = n) : (W.alloc o).heap[n]? = some o := h ▸ heap_alloc_new W o
theorem cell?_alloc_lt {w : World} {g o : Nat} {ob : Obj} (h : g < w.heap.size) : (w.alloc ob).cell? ⟨g, o, none⟩ = w.cell? ⟨g, o, none⟩ := (Below.refl w.heap.size w |>.alloc (Nat.le_refl _) ob).cell (p := ⟨g, o, none⟩) h
set_option maxHeartbeats 2000000 in
set_option maxRecDepth 100000 in
theorem gr35 (A : Option Addr) (c : Nat) (l : List S31) (t z lo hi : Int) (gh gl gz : Nat) (w : World) (hr : Kd.C k31 w A l.length l) (hc : l.length ≤ c) (hh : w.cell? ⟨gh, 0, none⟩ = some (.int .i64 hi)) (hlo : w.cell? ⟨gl, 0, none⟩ = some (.int .i64 lo)) (hz : w.cell? ⟨gz, 0, none⟩ = some (.int .i64 z)) :
  Calls Try.prog 33 #[.slice A l.length c, .int .i64 t, .func (.func 35) #[] #[.pointer (some ⟨gh, 0, none⟩), .pointer (some ⟨gl, 0, none⟩), .pointer (some ⟨gz, 0, none⟩)]] w fun e w' => e = .returned (.int .i64 (grV (lvlB z lo hi) l t)) ∧ Below w.heap.size w w' := by
 have hu31 := Try.underlying31
 have hl : l.length ≤ 9223372036854775807 := hr.2.1
 have HR := Aside0.mk hr
 have HC := Aside0.mk hc
 have C17 := Aside0.mk (cur_calls A c l t w hr hc)
 have XH := Aside0.mk hh
 have XL := Aside0.mk hlo
 have XZ := Aside0.mk hz
 clear hr hc hh hlo hz
 go_enter Try.func33, Try.ntmps33
 go_wp2_with (go_at_call 17; (with_reducible refine C17.out.mono ?_); rintro e w' ⟨rfl, hb⟩; have HB := Aside0.mk hb; clear hb)
 go_loopw [8, 16] (fun v8 v16 wr => ∃ k : Nat, k ≤ l.length ∧ v16 = .int .i64 k ∧ v8 = .int .i64 (grTo (lvlB z lo hi) (curV l t) t l k) ∧ Aside0 (Below w.heap.size w wr)) (fun _ v16 _ => l.length - (intOf v16).toNat)
 case atStart => exact ⟨0, Nat.zero_le _, rfl, rfl, HB⟩
 case round =>
  clear HB
  obtain ⟨k, hk, rfl, rfl, HB⟩ := hrel
  by_cases hlt : k < l.length
  ·obtain ⟨ad, A5, c5, rfl, x0, x1, x2, x3, x4, x5, x6, hlc, hin⟩ := at_T31 HR.out (k : Int) (by omega) (by omega)
   rw [Int.toNat_natCast] at x0 x1 x2 x3 x4 x5 x6
   replace x0 := (HB.out.cell (World.block_lt_of_cell? w _ x0)).trans x0
   replace x1 := (HB.out.cell (World.block_lt_of_cell? w _ x1)).trans x1
   replace x2 := (HB.out.cell (World.block_lt_of_cell? w _ x2)).trans x2
   replace x3 := (HB.out.cell (World.block_lt_of_cell? w _ x3)).trans x3
   replace x4 := (HB.out.cell (World.block_lt_of_cell? w _ x4)).trans x4
   replace x5 := (HB.out.cell (World.block_lt_of_cell? w _ x5)).trans x5
   replace x6 := (HB.out.cell (World.block_lt_of_cell? w _ x6)).trans x6
   have HI := Aside0.mk hin
   have HLC := Aside0.mk hlc
   clear hin hlc
   by_cases h0 : (rd_T31 l k).f0 = curV l t
   ·by_cases h1 : (rd_T31 l k).f1.f0 ≤ t
    ·by_cases h2 : t < (rd_T31 l k).f1.f1
     ·have hcv : covB (rd_T31 l k) t = true := by simp [covB, h1, h2]
      have h0b : ((rd_T31 l k).f0 == curV l t) = true := beq_iff_eq.2 h0
      have g0 := (HB.out.cell (World.block_lt_of_cell? w _ XH.out)).trans XH.out
      have g1 := (HB.out.cell (World.block_lt_of_cell? w _ XL.out)).trans XL.out
      have g2 := (HB.out.cell (World.block_lt_of_cell? w _ XZ.out)).trans XZ.out
      have q0 := World.block_lt_of_cell? wr _ g0
      have q1 := World.block_lt_of_cell? wr _ g1
      have q2 := World.block_lt_of_cell? wr _ g2
      have HIR := Aside0.mk (Kd.C_below HI.out HB.out)
      cases hm : lvlB z lo hi (rd_T31 l k) with
      | true =>
       have hg := Aside0.mk (gr_yes (m := lvlB z lo hi) (v := curV l t) (t := t) (l := l) (k := k) ⟨h0, hcv, hm⟩)
       have HM := Aside0.mk hm
       clear h0 hcv hm
       go_wp2_with (go_at_call 35; (with_reducible refine (clo35 (rd_T31 l k) A5 c5 z lo hi gh gl gz true _ ?s0 ?s1 ?s2 ?s3 HLC.out HM.out).mono ?_); (case s0 => first | exact (cell?_alloc_lt q0).trans g0 | (simp [g0, q0]; done)); (case s1 => first | exact (cell?_alloc_lt q1).trans g1 | (simp [g1, q1]; done)); (case s2 => first | exact (cell?_alloc_lt q2).trans g2 | (simp [g2, q2]; done)); (case s3 => exact Kd.C_alloc HIR.out _); rintro e w2 ⟨rfl, hb2⟩; have y6 : w2.cell? ⟨wr.heap.size, 6, none⟩ = some (.int .i64 (rd_T31 l k).f5) := (hb2.cell (p := ⟨wr.heap.size, 6, none⟩) (by simp)).trans (by simp); have HB2 := Aside0.mk (below_step (below_alloc HB.out _) hb2); clear hb2)
       exact ⟨⟨k + 1, hlt, rfl, by rw [hg.out]; rfl, HB2⟩, by simp [intOf]; omega⟩
      | false =>
       have hg := Aside0.mk (gr_no (m := lvlB z lo hi) (v := curV l t) (t := t) (l := l) (k := k) (fun h => by have := h.2.2; rw [hm] at this; cases this))
       have HM := Aside0.mk hm
       clear h0 hcv hm
       go_wp2_with (go_at_call 35; (with_reducible refine (clo35 (rd_T31 l k) A5 c5 z lo hi gh gl gz false _ ?s0 ?s1 ?s2 ?s3 HLC.out HM.out).mono ?_); (case s0 => first | exact (cell?_alloc_lt q0).trans g0 | (simp [g0, q0]; done)); (case s1 => first | exact (cell?_alloc_lt q1).trans g1 | (simp [g1, q1]; done)); (case s2 => first | exact (cell?_alloc_lt q2).trans g2 | (simp [g2, q2]; done)); (case s3 => exact Kd.C_alloc HIR.out _); rintro e w2 ⟨rfl, hb2⟩; have HB2 := Aside0.mk (below_step (below_alloc HB.out _) hb2); clear hb2)
       exact ⟨⟨k + 1, hlt, rfl, by rw [hg.out], HB2⟩, by simp [intOf]; omega⟩
     ·have hg := Aside0.mk (gr_no (m := (lvlB z lo hi)) (v := curV l t) (t := t) (l := l) (k := k) (fun h => by have := h.2.1; simp [covB, h2] at this))
      have h0b : ((rd_T31 l k).f0 == curV l t) = true := beq_iff_eq.2 h0
      have h2' : (rd_T31 l k).f1.f1 ≤ t := by omega
      clear h0 h2
      go_wp2
      exact ⟨⟨k + 1, hlt, rfl, by rw [hg.out], ⟨by repeat (first | (with_reducible first | exact HB.out | apply below_alloc))⟩⟩, by simp [intOf]; omega⟩
    ·have hg := Aside0.mk (gr_no (m := (lvlB z lo hi)) (v := curV l t) (t := t) (l := l) (k := k) (fun h => by have := h.2.1; simp [covB, h1] at this))
     have h0b : ((rd_T31 l k).f0 == curV l t) = true := beq_iff_eq.2 h0
     have h1' : t < (rd_T31 l k).f1.f0 := by omega
     clear h0 h1
     go_wp2
     exact ⟨⟨k + 1, hlt, rfl, by rw [hg.out], ⟨by repeat (first | (with_reducible first | exact HB.out | apply below_alloc))⟩⟩, by simp [intOf]; omega⟩
   ·have hg := Aside0.mk (gr_no (m := (lvlB z lo hi)) (v := curV l t) (t := t) (l := l) (k := k) (fun h => h0 h.1))
    have h0b : ((rd_T31 l k).f0 == curV l t) = false := beq_eq_false_iff_ne.2 h0
    clear h0
    go_wp2
    exact ⟨⟨k + 1, hlt, rfl, by rw [hg.out], ⟨by repeat (first | (with_reducible first | exact HB.out | apply below_alloc))⟩⟩, by simp [intOf]; omega⟩
  ·obtain rfl : k = l.length := by omega
   go_wp2
   go_ret
   exact ⟨rfl, HB.out⟩
def bulletin_Level.f (l0 : List S31) (a1 a2 a3 a4 : Int) : Option Int := some (grV (lvlB a1 a2 a3) l0 a4)
set_option maxHeartbeats 400000 in
theorem bulletin_Level.calls (A0 : Option Addr) (c0 : Nat) (l0 : List (S31)) (a1 : Int) (a2 : Int) (a3 : Int) (a4 : Int) (r : Int) (w : World) (hr0 : Kd.C k31 w A0 l0.length l0) (hc0 : l0.length ≤ c0) (h : bulletin_Level.f l0 a1 a2 a3 a4 = some r) :
  Calls Try.prog 23 #[.slice A0 l0.length c0, .int .i64 a1, .int .i64 a2, .int .i64 a3, .int .i64 a4] w fun e w' => e = .returned (.int .i64 r) ∧ Below w.heap.size w w' := by
 obtain rfl := Option.some.inj h
 have HR := Aside0.mk hr0
 have HC := Aside0.mk hc0
 have hbel : Below w.heap.size w w := Below.refl _ _
 clear hr0 hc0 h
 go_enter Try.func23, Try.ntmps23
 go_wp2_with fail
 refine (gr35 A0 c0 l0 a4 a1 a2 a3 (w.heap.size + 1 + 1) (w.heap.size + 1) w.heap.size _ (Kd.C_alloc (Kd.C_alloc (Kd.C_alloc HR.out _) _) _) HC.out ?s1 ?s2 ?s3).mono ?_
 case s1 => exact (blk_cell (heap_new (by simp)) 0).trans rfl
 case s2 => exact (blk_cell (blk_alloc (heap_new (by simp)) _) 0).trans rfl
 case s3 => exact (blk_cell (blk_alloc (blk_alloc (heap_alloc_new w _) _) _) 0).trans rfl
 rintro e w' ⟨rfl, hb⟩
 have HB := Aside0.mk (below_step (below_alloc (below_alloc (below_alloc hbel _) _) _) hb)
 clear hb
 go_wp2_with fail
 go_ret
 exact ⟨rfl, HB.out⟩

end Go.Proofs.Ytibmbffhlicpaaa.A
