-- PRINTED by print.py (a twelfth state) out of the translation. Not trusted: Lean checks it.
import Derived.Test.YtfabkiacmbkpmaaAx0
import Derived.Test.YtfabkiacmbkpmaaAx3
import Derived.Test.YtfabkiacmbkpmaaAx4
import Derived.Test.YtfabkiacmbkpmaaAx5
namespace Go.Proofs.Ytfabkiacmbkpmaa.A
open Go.RowKit Go.Proofs.YtfabkiacmbkpmaaW.PrintWords Go.Proofs.YtfabkiacmbkpmaaW.PrintLast Go.Proofs.YtfabkiacmbkpmaaW.PrintMore
attribute [local go_sem] max2_int min2_int max_two min_two max_three min_three max_four min_four   -- for this text's walks alone
set_option linter.unusedVariables false
set_option linter.unusedSimpArgs false

/-! ### skiarealaw36_alive: function 10 -/
theorem C_lit {α : Type} {d : Kd α} {W : World} {g : Nat} {t : TypeId} {fr : Nat × Nat} {cs : Array Value} (h : W.heap[g]? = some (.cells cs t fr)) (xs : List α) (hR : Reps (d.K W) d.sz xs cs.toList) (hm : xs.length ≤ 9223372036854775807) : d.C W (some ⟨g, 0, none⟩) xs.length xs := by
 refine ⟨rfl, hm, fun _ => ⟨_, rfl, fun j p hj => ?_⟩⟩
 have hjl := (List.getElem?_eq_some_iff.1 hj).1
 have h1 : j * d.sz + d.sz ≤ cs.toList.length := by rw [hR.1, ← Nat.succ_mul]; exact Nat.mul_le_mul_right _ hjl
 refine ⟨(cs.toList.drop (j * d.sz)).take d.sz, by rw [List.length_take, List.length_drop]; omega, hR.2 j p hj, fun i u hu => ?_⟩
 rw [add_plain, cell_of_row W g _ cs t fr h]
 rw [List.getElem?_take] at hu
 split at hu
 ·rw [List.getElem?_drop] at hu
  simpa using hu
 ·cases hu
theorem reps_ints (W : World) (xs : List Int) : Reps ((Kd.int .i64).K W) (Kd.int .i64).sz xs (xs.map (Value.int .i64)) := by
 refine ⟨by simp [Kd.int, Kd.scalar], fun j p hj => ?_⟩
 have hjl := (List.getElem?_eq_some_iff.1 hj).1
 show ((xs.map (Value.int .i64)).drop (j * 1)).take 1 = [.int .i64 p]
 rw [Nat.mul_one, List.drop_eq_getElem_cons (by simpa using hjl)]
 rw [List.getElem?_eq_getElem hjl] at hj
 simp at hj
 simp [hj]
theorem C_ints {W : World} {g : Nat} {t : TypeId} {fr : Nat × Nat} (xs : List Int) (h : W.heap[g]? = some (.cells (xs.map (Value.int .i64)).toArray t fr)) (hm : xs.length ≤ 9223372036854775807) : (Kd.int .i64).C W (some ⟨g, 0, none⟩) xs.length xs :=
 C_lit h xs (by simpa using reps_ints W xs) hm
theorem heap_new {W : World} {o : Obj} {n : Nat} (h : W.heap.size = n) : (W.alloc o).heap[n]? = some o := h ▸ heap_alloc_new W o
def aN : List S53 := [⟨1, 1000⟩, ⟨2, 1500⟩]
def aL : List S50 := [⟨1, 1, 1, 2, 1000, 5000, 4, 20⟩, ⟨2, 1, 1, 2, 1000, 5000, 4, 20⟩, ⟨3, 2, 1, 2, 1000, 5000, 4, 20⟩]
theorem repsN (W : World) : Reps (k53.K W) k53.sz aN [.int .i64 1, .int .i64 1000, .int .i64 2, .int .i64 1500] :=
 Reps.c2 (k53_mk W ⟨1, 1000⟩) (Reps.c2 (k53_mk W ⟨2, 1500⟩) (Reps.none _ _))
theorem repsL (W : World) : Reps (k50.K W) k50.sz aL [.int .i64 1, .int .i64 1, .int .i64 1, .int .i64 2, .int .i64 1000, .int .i64 5000, .int .i64 4, .int .i64 20, .int .i64 2, .int .i64 1, .int .i64 1, .int .i64 2, .int .i64 1000, .int .i64 5000, .int .i64 4, .int .i64 20, .int .i64 3, .int .i64 2, .int .i64 1, .int .i64 2, .int .i64 1000, .int .i64 5000, .int .i64 4, .int .i64 20] :=
 Reps.c8 (k50_mk W ⟨1, 1, 1, 2, 1000, 5000, 4, 20⟩) (Reps.c8 (k50_mk W ⟨2, 1, 1, 2, 1000, 5000, 4, 20⟩) (Reps.c8 (k50_mk W ⟨3, 2, 1, 2, 1000, 5000, 4, 20⟩) (Reps.none _ _)))
theorem closedA (k : Nat) (gn gl gp : Nat) (A1 A2 : Option Addr) (c1 c2 : Nat) (l1 l2 : List Int) (r : Int) (w : World) (hN : w.heap[gn]? = some (.cells #[.int .i64 1, .int .i64 1000, .int .i64 2, .int .i64 1500] 53 (0, 0)))
  (hL : w.heap[gl]? = some (.cells #[.int .i64 1, .int .i64 1, .int .i64 1, .int .i64 2, .int .i64 1000, .int .i64 5000, .int .i64 4, .int .i64 20, .int .i64 2, .int .i64 1, .int .i64 1, .int .i64 2, .int .i64 1000, .int .i64 5000, .int .i64 4, .int .i64 20, .int .i64 3, .int .i64 2, .int .i64 1, .int .i64 2, .int .i64 1000, .int .i64 5000, .int .i64 4, .int .i64 20] 50 (0, 0)))
  (hP : w.heap[gp]? = some (.cells #[.int .i64 1] 3 (0, 0))) (h1 : Kd.C (Kd.int .i64) w A1 l1.length l1) (hc1 : l1.length ≤ c1) (h2 : Kd.C (Kd.int .i64) w A2 l2.length l2) (hc2 : l2.length ≤ c2) (h : refund_Closed.f k aN aL [] [1] l1 l2 = some r) :
  Calls Try.prog 16 #[.agg #[.slice (some ⟨gn, 0, none⟩) 2 2, .slice (some ⟨gl, 0, none⟩) 3 3, .slice none 0 0, .slice (some ⟨gp, 0, none⟩) 1 1], .slice A1 l1.length c1, .slice A2 l2.length c2] w fun e w' => e = .returned (.int .i64 r) ∧ Below w.heap.size w w' :=
 refund_Closed.calls k (some ⟨gn, 0, none⟩) 2 aN (some ⟨gl, 0, none⟩) 3 aL none 0 [] (some ⟨gp, 0, none⟩) 1 [1] A1 c1 l1 A2 c2 l2 r w (C_lit hN aN (repsN w) (by decide)) (by decide) (C_lit hL aL (repsL w) (by decide)) (by decide) (Kd.C_nil _ _) (by decide) (C_ints [1] hP (by decide)) (by decide) h1 hc1 h2 hc2 h
set_option maxHeartbeats 4000000 in
set_option maxRecDepth 100000 in
theorem alive_calls (w : World) : Calls Try.prog 10 #[] w fun e w' => e = .returned (.bool true) ∧ Below w.heap.size w w' := by
 have hu36 := Try.underlying36
 have hu41 := Try.underlying41
 have hu50 := Try.underlying50
 have hu53 := Try.underlying53
 have hb : Below w.heap.size w w := Below.refl _ _
 go_enter Try.func10, Try.ntmps10
 go_wp2_with fail
 refine (skiarealaw36_lift.calls 1 1 _ _ _ _ _ _ _ _ _ rfl).mono ?_
 rintro e w1 ⟨rfl, hb1⟩
 have N1 := Aside0.mk (blk_below (heap_alloc_new w _) hb1)
 have B1 := Aside0.mk (below_step (below_alloc hb _) hb1)
 clear hb1
 go_wp2_with fail
 refine (skiarealaw36_lift.calls 2 1 _ _ _ _ _ _ _ _ _ rfl).mono ?_
 rintro e w2 ⟨rfl, hb2⟩
 have N2 := Aside0.mk (blk_below N1.out hb2)
 have B2 := Aside0.mk (below_step B1.out hb2)
 clear hb2 N1 B1
 go_wp2_with fail
 refine (skiarealaw36_lift.calls 3 2 _ _ _ _ _ _ _ _ _ rfl).mono ?_
 rintro e w3 ⟨rfl, hb3⟩
 have N3 := Aside0.mk (blk_below N2.out hb3)
 have B3 := Aside0.mk (below_step B2.out hb3)
 clear hb3 N2 B2
 go_wp2_with fail
 have D1 : refund_Days.f 500 600 10000 [499, 500, 1000] = some (3998, 0) := by decide +kernel
 refine (refund_Days.calls 500 600 10000 _ _ [499, 500, 1000] 3998 0 _ (C_ints [499, 500, 1000] (heap_new (by simp)) (by simp)) (by simp) D1).mono ?_
 rintro e w4 ⟨rfl, hb4⟩
 have N4 := Aside0.mk (blk_below (blk_alloc (blk_alloc (blk_alloc (blk_alloc N3.out _) _) _) _) hb4)
 have L4 := Aside0.mk (blk_below (blk_alloc (blk_alloc (blk_alloc (heap_alloc_new w3 _) _) _) _) hb4)
 have P4 : w4.heap[w3.heap.size + 1]? = some (.cells #[.int .i64 1] 3 (0, 0)) := blk_below (blk_alloc (blk_alloc (heap_new (by simp)) _) _) hb4
 have M4 : w4.heap[w3.heap.size + 1 + 1]? = some (.cells #[.slice (some ⟨w.heap.size, 0, none⟩) 2 2, .slice (some ⟨w3.heap.size, 0, none⟩) 3 3, .slice none 0 0, .slice (some ⟨w3.heap.size + 1, 0, none⟩) 1 1] 36 (0, 0)) := blk_below (blk_alloc (heap_new (by simp)) _) hb4
 have B4 := Aside0.mk (below_step (below_alloc (below_alloc (below_alloc (below_alloc B3.out _) _) _) _) hb4)
 replace P4 := Aside0.mk P4
 replace M4 := Aside0.mk M4
 generalize hgn : w.heap.size = gn at N4 M4
 generalize hgl : w3.heap.size = gl at L4 P4 M4
 clear hb4 N3 B3
 go_wp2_with fail
 refine (refund_Unused.calls 10000 3 1 3333 0 _ (by decide +kernel)).mono ?_
 rintro e w' ⟨rfl, ⟨m1, rfl⟩⟩
 go_wp2_with fail
 refine (refund_Unused.calls 10000 3 3 10000 0 _ (by decide +kernel)).mono ?_
 rintro e w' ⟨rfl, ⟨m2, rfl⟩⟩
 go_wp2_with fail
 refine (refund_Reduce.calls 7 0 0 0 5000 400 4700 7 0 0 0 300 300 0 _ (by unfold refund_Reduce.f; rw [if_pos (by decide)]; simp [wrap64, mn])).mono ?_
 rintro e w5 ⟨rfl, hb5⟩
 have N5 := Aside0.mk (blk_below (blk_drewN N4.out _) hb5)
 have L5 := Aside0.mk (blk_below (blk_drewN L4.out _) hb5)
 have P5 := Aside0.mk (blk_below (blk_drewN P4.out _) hb5)
 have M5 := Aside0.mk (blk_below (blk_drewN M4.out _) hb5)
 have B5 := Aside0.mk (below_step (pw_below_drewN B4.out _) hb5)
 clear hb5 N4 L4 P4 M4 B4
 go_wp2_with fail
 refine (refund_Reduce.calls 0 0 0 0 5000 400 5001 0 0 0 0 0 0 2 _ (by unfold refund_Reduce.f; rw [if_neg (by decide)])).mono ?_
 rintro e w6 ⟨rfl, hb6⟩
 have N6 := Aside0.mk (blk_below (blk_alloc N5.out _) hb6)
 have L6 := Aside0.mk (blk_below (blk_alloc L5.out _) hb6)
 have P6 := Aside0.mk (blk_below (blk_alloc P5.out _) hb6)
 have M6 := Aside0.mk (blk_below (blk_alloc M5.out _) hb6)
 have S6 := Aside0.mk (blk_below (heap_alloc_new w5 _) hb6)
 have B6 := Aside0.mk (below_step (below_alloc B5.out _) hb6)
 generalize hgs : w5.heap.size = gs at S6
 have z1 : gs < w6.heap.size := blk_lt S6.out
 have z2 : gl + 1 + 1 < w6.heap.size := blk_lt M6.out
 clear hb6 N5 L5 P5 M5 B5
 have s0 := blk_cell S6.out 0
 have s1 := blk_cell S6.out 1
 have s2 := blk_cell S6.out 2
 have s3 := blk_cell S6.out 3
 have s4 := blk_cell S6.out 4
 have s5 := blk_cell S6.out 5
 have t0 := blk_cell M6.out 0
 have t1 := blk_cell M6.out 1
 have t2 := blk_cell M6.out 2
 have t3 := blk_cell M6.out 3
 simp only [List.getElem?_toArray, List.getElem?_cons_zero, List.getElem?_cons_succ] at s0 s1 s2 s3 s4 s5 t0 t1 t2 t3
 go_wp2_with fail
 refine (closedA 20 gn gl (gl + 1) _ _ 2 2 [1, 2] [2, 9] 333 _ (blk_alloc (blk_alloc (blk_alloc N6.out _) _) _) (blk_alloc (blk_alloc (blk_alloc L6.out _) _) _) (blk_alloc (blk_alloc (blk_alloc P6.out _) _) _) (C_ints [1, 2] (blk_alloc (heap_new (by simp)) _) (by decide)) (by decide) (C_ints [2, 9] (heap_new (by simp)) (by decide)) (by decide) (by decide +kernel)).mono ?_
 rintro e w7 ⟨rfl, hb7⟩
 have N7 := Aside0.mk (blk_below (blk_alloc (blk_alloc (blk_alloc N6.out _) _) _) hb7)
 have L7 := Aside0.mk (blk_below (blk_alloc (blk_alloc (blk_alloc L6.out _) _) _) hb7)
 have P7 := Aside0.mk (blk_below (blk_alloc (blk_alloc (blk_alloc P6.out _) _) _) hb7)
 have M7 := Aside0.mk (blk_below (blk_alloc (blk_alloc (blk_alloc M6.out _) _) _) hb7)
 have B7 := Aside0.mk (below_step (below_alloc (below_alloc (below_alloc B6.out _) _) _) hb7)
 clear hb7 N6 L6 P6 M6 B6 S6 t0 t1 t2 t3 z1 z2 s0 s1 s2 s3 s4 s5
 have t0 := blk_cell M7.out 0
 have t1 := blk_cell M7.out 1
 have t2 := blk_cell M7.out 2
 have t3 := blk_cell M7.out 3
 simp only [List.getElem?_toArray, List.getElem?_cons_zero, List.getElem?_cons_succ] at t0 t1 t2 t3
 have z2 : gl + 1 + 1 < w7.heap.size := blk_lt M7.out
 go_wp2_with fail
 refine (closedA 20 gn gl (gl + 1) _ _ 1 2 [1] [2, 9] 500 _ (blk_alloc (blk_alloc (N7.out) _) _) (blk_alloc (blk_alloc (L7.out) _) _) (blk_alloc (blk_alloc (P7.out) _) _) (C_ints [1] (blk_alloc (heap_new (by simp)) _) (by decide)) (by decide) (C_ints [2, 9] (heap_new (by simp)) (by decide)) (by decide) (by decide +kernel)).mono ?_
 rintro e w8 ⟨rfl, hb8⟩
 have N8 := Aside0.mk (blk_below (blk_alloc (blk_alloc (N7.out) _) _) hb8)
 have L8 := Aside0.mk (blk_below (blk_alloc (blk_alloc (L7.out) _) _) hb8)
 have P8 := Aside0.mk (blk_below (blk_alloc (blk_alloc (P7.out) _) _) hb8)
 have M8 := Aside0.mk (blk_below (blk_alloc (blk_alloc (M7.out) _) _) hb8)
 have B8 := Aside0.mk (below_step (below_alloc (below_alloc (B7.out) _) _) hb8)
 clear hb8 N7 L7 P7 M7 B7 t0 t1 t2 t3 z2
 have t0 := blk_cell M8.out 0
 have t1 := blk_cell M8.out 1
 have t2 := blk_cell M8.out 2
 have t3 := blk_cell M8.out 3
 simp only [List.getElem?_toArray, List.getElem?_cons_zero, List.getElem?_cons_succ] at t0 t1 t2 t3
 have z2 : gl + 1 + 1 < w8.heap.size := blk_lt M8.out
 go_wp2_with fail
 refine (closedA 20 gn gl (gl + 1) _ _ 1 2 [3] [2, 9] 0 _ (blk_alloc (blk_alloc (N8.out) _) _) (blk_alloc (blk_alloc (L8.out) _) _) (blk_alloc (blk_alloc (P8.out) _) _) (C_ints [3] (blk_alloc (heap_new (by simp)) _) (by decide)) (by decide) (C_ints [2, 9] (heap_new (by simp)) (by decide)) (by decide) (by decide +kernel)).mono ?_
 rintro e w9 ⟨rfl, hb9⟩
 have N9 := Aside0.mk (blk_below (blk_alloc (blk_alloc (N8.out) _) _) hb9)
 have L9 := Aside0.mk (blk_below (blk_alloc (blk_alloc (L8.out) _) _) hb9)
 have P9 := Aside0.mk (blk_below (blk_alloc (blk_alloc (P8.out) _) _) hb9)
 have M9 := Aside0.mk (blk_below (blk_alloc (blk_alloc (M8.out) _) _) hb9)
 have B9 := Aside0.mk (below_step (below_alloc (below_alloc (B8.out) _) _) hb9)
 clear hb9
 go_wp2_with fail
 go_ret
 exact ⟨by first | rfl | (simp; done), B9.out⟩
def skiarealaw36_alive.f (k : Nat) : Option Bool := some true
theorem skiarealaw36_alive.mono : ∀ k, LeO (skiarealaw36_alive.f k) (skiarealaw36_alive.f (k + 1)) := fun _ => LeO.refl _
theorem skiarealaw36_alive.calls (k : Nat) (r : Bool) (w : World) (h : skiarealaw36_alive.f k = some r) : Calls Try.prog 10 #[] w fun e w' => e = .returned (.bool r) ∧ Below w.heap.size w w' := by
 obtain rfl := Option.some.inj h
 exact alive_calls w

/-! ### skiarearef36_share: function 26 -/
def skiarearef36_share.f (a0 : Int) : Option (Bool) := if a0 ≥ 0 then (some (decide (a0 ≤ 1000))) else (some false)
set_option maxHeartbeats 8000000 in
set_option maxRecDepth 100000 in
theorem skiarearef36_share.calls (a0 : Int) (r : Bool) (w : World) (h : skiarearef36_share.f a0 = some r) :
  Calls Try.prog 26 #[.int .i64 a0] w fun e w' => e = .returned (.bool r) ∧ Drawn0 w w' := by
 have H : (if a0 ≥ 0 then (some (decide (a0 ≤ 1000))) else (some false)) = some r := h
 clear h
 by_cases c2 : a0 ≥ 0
 ·rw [if_pos c2] at H
  have c2b0 : decide (0 ≤ a0) = true := decide_eq_true c2
  clear c2
  obtain rfl := Option.some.inj H
  go_enter Try.func26, Try.ntmps26
  go_wp2
  go_ret
  exact ⟨by first | rfl | (simp; done) | (simp [*]; done), by repeat (first | exact Drawn0.refl _ | apply Drawn0.step)⟩
 ·rw [if_neg c2] at H
  have c2b0 : decide (0 ≤ a0) = false := decide_eq_false c2
  clear c2
  obtain rfl := Option.some.inj H
  go_enter Try.func26, Try.ntmps26
  go_wp2
  go_ret
  exact ⟨by first | rfl | (simp; done) | (simp [*]; done), by repeat (first | exact Drawn0.refl _ | apply Drawn0.step)⟩

/-! ### skiarearef36_price: function 27 -/
def skiarearef36_price.f (a0 : Int) : Option (Bool) := if a0 ≥ 0 then (some (decide (a0 ≤ 100000000))) else (some false)
set_option maxHeartbeats 8000000 in
set_option maxRecDepth 100000 in
theorem skiarearef36_price.calls (a0 : Int) (r : Bool) (w : World) (h : skiarearef36_price.f a0 = some r) :
  Calls Try.prog 27 #[.int .i64 a0] w fun e w' => e = .returned (.bool r) ∧ Drawn0 w w' := by
 have H : (if a0 ≥ 0 then (some (decide (a0 ≤ 100000000))) else (some false)) = some r := h
 clear h
 by_cases c2 : a0 ≥ 0
 ·rw [if_pos c2] at H
  have c2b0 : decide (0 ≤ a0) = true := decide_eq_true c2
  clear c2
  obtain rfl := Option.some.inj H
  go_enter Try.func27, Try.ntmps27
  go_wp2
  go_ret
  exact ⟨by first | rfl | (simp; done) | (simp [*]; done), by repeat (first | exact Drawn0.refl _ | apply Drawn0.step)⟩
 ·rw [if_neg c2] at H
  have c2b0 : decide (0 ≤ a0) = false := decide_eq_false c2
  clear c2
  obtain rfl := Option.some.inj H
  go_enter Try.func27, Try.ntmps27
  go_wp2
  go_ret
  exact ⟨by first | rfl | (simp; done) | (simp [*]; done), by repeat (first | exact Drawn0.refl _ | apply Drawn0.step)⟩

end Go.Proofs.Ytfabkiacmbkpmaa.A
