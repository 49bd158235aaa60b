-- PRINTED by print.py (a twelfth state) out of the translation. Not trusted: Lean checks it.
import Derived.Test.YtfabkiacmbkpmaaAx0
import Derived.Test.YtfabkiacmbkpmaaAx2
namespace Go.Proofs.Ytfabkiacmbkpmaa.A
open Go.RowKit Go.Proofs.YtfabkiacmbkpmaaW.PrintWords Go.Proofs.YtfabkiacmbkpmaaW.PrintLast Go.Proofs.YtfabkiacmbkpmaaW.PrintMore
attribute [local go_sem] max2_int min2_int max_two min_two max_three min_three max_four min_four   -- for this text's walks alone
set_option linter.unusedVariables false
set_option linter.unusedSimpArgs false

/-! ### refund_Days: function 11 -/
theorem clo24 (x : Int) (b : Bool) (w : World) (h : b = decide (0 ≤ x ∧ x ≤ 1000)) : Calls Try.prog 24 #[.int .i64 x] w fun e w' => e = .returned (.bool !b) ∧ Drawn0 w w' := by
 cases b with
 | true =>
  have C := Aside0.mk (of_decide_eq_true h.symm); clear h
  go_enter Try.func24, Try.ntmps24
  go_wp2_with (go_at_call 22; (with_reducible refine (in_true x 0 1000 _ C.out).mono ?_); rintro e w' ⟨rfl, ⟨nd, rfl⟩⟩)
  go_ret
  exact ⟨rfl, ⟨nd, rfl⟩⟩
 | false =>
  have C := Aside0.mk (of_decide_eq_false h.symm); clear h
  go_enter Try.func24, Try.ntmps24
  go_wp2_with (go_at_call 22; (with_reducible refine (in_false x 0 1000 _ C.out).mono ?_); rintro e w' ⟨rfl, ⟨nd, rfl⟩⟩)
  go_ret
  exact ⟨rfl, ⟨nd, rfl⟩⟩
/-- The first place from which on the list isn't known to be in range. -/
def shareB (x : Int) : Bool := decide (0 ≤ x ∧ x ≤ 1000)
set_option maxHeartbeats 1000000 in
theorem idx34 (A : Option Addr) (c : Nat) (l : List Int) (j : Nat) (w : World) (hr : Kd.C (Kd.int .i64) w A l.length l) (hm : l.length ≤ 9223372036854775807) (hj : j ≤ l.length)
  (hg : ∀ k : Nat, k < j → shareB (rd l k) = true) (hb : j < l.length → shareB (rd l j) = false) :
  Calls Try.prog 34 #[.slice A l.length c, .func (.func 24) #[] #[]] w fun e w' => e = .returned (.int .i64 (if j < l.length then (j : Int) else -1)) ∧ Drawn0 w w' := by
 have HR := Aside0.mk hr
 have HG := Aside0.mk hg
 have HBD := Aside0.mk hb
 clear hr hg hb
 go_enter Try.func34, Try.ntmps34
 go_wp2
 go_loopw [8] (fun v8 wr => ∃ k : Nat, k ≤ j ∧ v8 = .int .i64 k ∧ Drawn0 w wr) (fun v8 _ => l.length - (intOf v8).toNat)
 case atStart => exact ⟨0, Nat.zero_le _, rfl, Drawn0.refl _⟩
 case round =>
  obtain ⟨k, hk, rfl, ⟨m1, rfl⟩⟩ := hrel
  by_cases hlt : k < l.length
  ·obtain ⟨ad, rfl, hx⟩ := Kd.at_int HR.out (k : Int) (by omega) (by omega)
   rw [Int.toNat_natCast] at hx
   by_cases hkj : k < j
   ·have C := Aside0.mk (clo24 (rd l k) true (w.drewN m1) (HG.out k hkj).symm)
    go_wp2_with (go_at_call 24; (with_reducible refine C.out.mono ?_); rintro e w' ⟨rfl, ⟨nd, rfl⟩⟩)
    exact ⟨⟨k + 1, hkj, rfl, by repeat (first | exact Drawn0.refl _ | apply Drawn0.step)⟩, by simp [intOf]; omega⟩
   ·obtain rfl : k = j := by omega
    have C := Aside0.mk (clo24 (rd l k) false (w.drewN m1) (HBD.out hlt).symm)
    go_wp2_with (go_at_call 24; (with_reducible refine C.out.mono ?_); rintro e w' ⟨rfl, ⟨nd, rfl⟩⟩)
    go_ret
    exact ⟨by first | rfl | (simp; done) | (simp [hlt]; done), by repeat (first | exact Drawn0.refl _ | apply Drawn0.step)⟩
  ·obtain rfl : k = l.length := by omega
   obtain rfl : j = l.length := by omega
   go_wp2
   go_ret
   exact ⟨by first | rfl | (simp; done) | (simp [hlt]; done), by repeat (first | exact Drawn0.refl _ | apply Drawn0.step)⟩
/-- A list is in range up to its first element that isn't. -/
theorem first_bad (p : Int → Bool) (l : List Int) : ∃ j : Nat, j ≤ l.length ∧ (∀ k : Nat, k < j → p (rd l k) = true) ∧ (j < l.length → p (rd l j) = false) := by
 induction l with
 | nil => exact ⟨0, Nat.le_refl _, fun k hk => absurd hk (by omega), fun h => absurd h (by simp)⟩
 | cons x xs ih =>
  obtain ⟨j, hj, h1, h2⟩ := ih
  cases hp : p x with
  | false => exact ⟨0, Nat.zero_le _, fun k hk => absurd hk (by omega), fun _ => by simpa [rd] using hp⟩
  | true =>
   refine ⟨j + 1, by simpa using hj, fun k hk => ?_, fun h => ?_⟩
   ·cases k with
    | zero => simpa [rd] using hp
    | succ k => have := h1 k (by omega); simpa [rd] using this
   ·have := h2 (by simpa using h); simpa [rd] using this
theorem all_of_rd (p : Int → Bool) (l : List Int) : l.all p = true ↔ ∀ k : Nat, k < l.length → p (rd l k) = true := by
 rw [List.all_eq_true]
 constructor
 ·intro h k hk
  refine h _ ?_
  simp only [rd, Int.toNat_natCast, List.getD_eq_getElem?_getD, List.getElem?_eq_getElem hk, Option.getD_some]
  exact List.getElem_mem hk
 ·intro h x hx
  obtain ⟨k, hk, rfl⟩ := List.getElem_of_mem hx
  have := h k hk
  simpa only [rd, Int.toNat_natCast, List.getD_eq_getElem?_getD, List.getElem?_eq_getElem hk, Option.getD_some] using this
theorem contains23 (A : Option Addr) (c : Nat) (l : List Int) (w : World) (b : Bool) (hr : Kd.C (Kd.int .i64) w A l.length l) (hm : l.length ≤ 9223372036854775807) (hb : l.all shareB = !b) :
  Calls Try.prog 23 #[.slice A l.length c, .func (.func 24) #[] #[]] w fun e w' => e = .returned (.bool b) ∧ Drawn0 w w' := by
 obtain ⟨j, hj, h1, h2⟩ := first_bad shareB l
 have C := Aside0.mk (idx34 A c l j w hr hm hj h1 h2)
 have hd : b = decide (j < l.length) := by
  cases b with
  | true =>
   symm
   apply decide_eq_true
   refine Classical.byContradiction fun hn => ?_
   have h4 : l.all shareB = true := (all_of_rd _ _).2 fun k hk => h1 k (by omega)
   rw [hb] at h4
   cases h4
  | false =>
   symm
   apply decide_eq_false
   intro hn
   have h3 := (all_of_rd _ _).1 hb j hn
   rw [h2 hn] at h3
   cases h3
 subst hd
 clear hr h1 h2 hb
 by_cases hlt : j < l.length
 ·rw [decide_eq_true hlt]
  rw [if_pos hlt] at C
  go_enter Try.func23, Try.ntmps23
  go_wp2_with (go_at_call 34; (with_reducible refine C.out.mono ?_); rintro e w' ⟨rfl, ⟨nd, rfl⟩⟩)
  go_ret
  exact ⟨by first | rfl | (simp; done), by repeat (first | exact Drawn0.refl _ | apply Drawn0.step)⟩
 ·rw [decide_eq_false hlt]
  rw [if_neg hlt] at C
  go_enter Try.func23, Try.ntmps23
  go_wp2_with (go_at_call 34; (with_reducible refine C.out.mono ?_); rintro e w' ⟨rfl, ⟨nd, rfl⟩⟩)
  go_ret
  exact ⟨by first | rfl | (simp; done), by repeat (first | exact Drawn0.refl _ | apply Drawn0.step)⟩
def dsum (L R : Int) (l ps : List Int) : Nat → Int
 | 0 => 0
 | k + 1 => dsum L R l ps k + if rd l k ≥ L then rd ps k * R / 1000 else 0
def refund_Days.f (a0_0 a0_1 a1 : Int) (l2 : List Int) : Option (Int × Int) :=
 if ¬ l2.length ≤ 9223372036854775807 then none
 else if ¬ ((0 ≤ a0_0 ∧ a0_0 ≤ 1000) ∧ (0 ≤ a0_1 ∧ a0_1 ≤ 1000) ∧ (0 ≤ a1 ∧ a1 ≤ 100000000)) then some (0, 2)
 else if ¬ (1 ≤ l2.length ∧ l2.length ≤ 64) then some (0, 1)
 else if l2.all shareB = false then some (0, 2)
 else some (dsum a0_0 a0_1 l2 (evens a1 l2.length) l2.length, 0)
theorem evens_len (a : Int) (m : Nat) : (evens a m).length = m := by simp [evens]
theorem evens_rd (a : Int) (m k : Nat) (h : k < m) : rd (evens a m) k = evn a m k := by
 simp [evens, rd, List.getD_eq_getElem?_getD, h]
theorem evn_bd (a n i : Int) (ha : 0 ≤ a) (hn : 1 ≤ n) : 0 ≤ evn a n i ∧ evn a n i ≤ a + 1 := by
 have q0 : 0 ≤ a / n := Int.ediv_nonneg ha (by omega)
 have q1 : a / n ≤ a := Int.ediv_le_self _ ha
 unfold evn; split <;> omega
theorem part_bd (a R : Int) (m k : Nat) (h : k < m) (ha : 0 ≤ a) (ha2 : a ≤ 100000000) (hR : 0 ≤ R) (hR2 : R ≤ 1000) :
  0 ≤ rd (evens a m) k * R ∧ rd (evens a m) k * R ≤ 100000001000 := by
 rw [evens_rd _ _ _ h]
 obtain ⟨h0, h1⟩ := evn_bd a m k ha (by omega)
 refine ⟨Int.mul_nonneg h0 hR, ?_⟩
 exact calc evn a m k * R ≤ 100000001 * R := Int.mul_le_mul_of_nonneg_right (by omega) hR
  _ ≤ 100000001 * 1000 := Int.mul_le_mul_of_nonneg_left hR2 (by omega)
theorem dsum_bd (a L R : Int) (l : List Int) (m : Nat) (ha : 0 ≤ a) (ha2 : a ≤ 100000000) (hR : 0 ≤ R) (hR2 : R ≤ 1000) : ∀ k : Nat, k ≤ m → 0 ≤ dsum L R l (evens a m) k ∧ dsum L R l (evens a m) k ≤ k * 100000001
 | 0, _ => by simp [dsum]
 | k + 1, h => by
  have ih := dsum_bd a L R l m ha ha2 hR hR2 k (by omega)
  have hp := part_bd a R m k (by omega) ha ha2 hR hR2
  unfold dsum
  split <;> omega
set_option maxHeartbeats 2000000 in
theorem days_bad (a0_0 a0_1 a1 : Int) (A2 : Option Addr) (c2 : Nat) (l2 : List Int) (w : World) (HR : Aside0 (Kd.C (Kd.int .i64) w A2 l2.length l2)) (CL : Aside0 (0 ≤ a0_0 ∧ a0_0 ≤ 1000)) (CR : Aside0 (0 ≤ a0_1 ∧ a0_1 ≤ 1000)) (CP : Aside0 (0 ≤ a1 ∧ a1 ≤ 100000000)) (g1 : 1 ≤ l2.length) (g2 : l2.length ≤ 64) (HALL : Aside0 (l2.all shareB = !true)) :
  Calls Try.prog 11 #[.agg #[.int .i64 a0_0, .int .i64 a0_1], .int .i64 a1, .slice A2 l2.length c2] w fun e w' => e = .returned (.tuple #[.int .i64 0, .int .i64 2]) ∧ Below w.heap.size w w' := by
 have hu23 := Try.underlying23
 have hb : Below w.heap.size w w := Below.refl _ _
 have CN := Aside0.mk (show 1 ≤ (l2.length : Int) ∧ (l2.length : Int) ≤ 64 by omega)
 go_enter Try.func11, Try.ntmps11
 go_wp2_with (first | (go_at_call 22; (with_reducible refine (in_true a0_0 0 1000 _ CL.out).mono ?_); rintro e w' ⟨rfl, ⟨nd, rfl⟩⟩) | (go_at_call 22; (with_reducible refine (in_true a0_1 0 1000 _ CR.out).mono ?_); rintro e w' ⟨rfl, ⟨nd, rfl⟩⟩) | (go_at_call 22; (with_reducible refine (in_true a1 0 100000000 _ CP.out).mono ?_); rintro e w' ⟨rfl, ⟨nd, rfl⟩⟩) | (go_at_call 22; (with_reducible refine (in_true l2.length 1 64 _ CN.out).mono ?_); rintro e w' ⟨rfl, ⟨nd, rfl⟩⟩) | (go_at_call 23; (with_reducible refine (contains23 A2 c2 l2 _ true ?s1 (by omega) HALL.out).mono ?_); (case s1 => repeat (first | exact HR.out | (with_reducible refine Kd.C_alloc ?_ _) | (with_reducible refine Kd.C_drewN ?_ _) | (with_reducible refine Kd.C_drew ?_))); rintro e w' ⟨rfl, ⟨nd, rfl⟩⟩))
 go_ret2
 refine ⟨rfl, ?_⟩
 repeat (first | (with_reducible first | exact hb | apply below_alloc | apply pw_below_drewN | apply below_drew1))
set_option maxHeartbeats 2000000 in
theorem days_len (a0_0 a0_1 a1 : Int) (A2 : Option Addr) (c2 : Nat) (l2 : List Int) (w : World) (CL : Aside0 (0 ≤ a0_0 ∧ a0_0 ≤ 1000)) (CR : Aside0 (0 ≤ a0_1 ∧ a0_1 ≤ 1000)) (CP : Aside0 (0 ≤ a1 ∧ a1 ≤ 100000000)) (CN : Aside0 (¬ (1 ≤ (l2.length : Int) ∧ (l2.length : Int) ≤ 64))) (hm : l2.length ≤ 9223372036854775807) :
  Calls Try.prog 11 #[.agg #[.int .i64 a0_0, .int .i64 a0_1], .int .i64 a1, .slice A2 l2.length c2] w fun e w' => e = .returned (.tuple #[.int .i64 0, .int .i64 1]) ∧ Below w.heap.size w w' := by
 have hu23 := Try.underlying23
 have hb : Below w.heap.size w w := Below.refl _ _
 go_enter Try.func11, Try.ntmps11
 go_wp2_with (first | (go_at_call 22; (with_reducible refine (in_true a0_0 0 1000 _ CL.out).mono ?_); rintro e w' ⟨rfl, ⟨nd, rfl⟩⟩) | (go_at_call 22; (with_reducible refine (in_true a0_1 0 1000 _ CR.out).mono ?_); rintro e w' ⟨rfl, ⟨nd, rfl⟩⟩) | (go_at_call 22; (with_reducible refine (in_true a1 0 100000000 _ CP.out).mono ?_); rintro e w' ⟨rfl, ⟨nd, rfl⟩⟩) | (go_at_call 22; (with_reducible refine (in_false l2.length 1 64 _ CN.out).mono ?_); rintro e w' ⟨rfl, ⟨nd, rfl⟩⟩))
 go_ret2
 refine ⟨rfl, ?_⟩
 repeat (first | (with_reducible first | exact hb | apply below_alloc | apply pw_below_drewN | apply below_drew1))
set_option maxHeartbeats 2000000 in
theorem days_rng (a0_0 a0_1 a1 : Int) (A2 : Option Addr) (c2 : Nat) (l2 : List Int) (w : World) (C : ¬ ((0 ≤ a0_0 ∧ a0_0 ≤ 1000) ∧ (0 ≤ a0_1 ∧ a0_1 ≤ 1000) ∧ (0 ≤ a1 ∧ a1 ≤ 100000000))) :
  Calls Try.prog 11 #[.agg #[.int .i64 a0_0, .int .i64 a0_1], .int .i64 a1, .slice A2 l2.length c2] w fun e w' => e = .returned (.tuple #[.int .i64 0, .int .i64 2]) ∧ Below w.heap.size w w' := by
 have hu23 := Try.underlying23
 have hb : Below w.heap.size w w := Below.refl _ _
 by_cases CL : 0 ≤ a0_0 ∧ a0_0 ≤ 1000
 ·by_cases CR : 0 ≤ a0_1 ∧ a0_1 ≤ 1000
  ·have CP := Aside0.mk (fun h => C ⟨CL, CR, h⟩)
   replace CL := Aside0.mk CL
   replace CR := Aside0.mk CR
   clear C
   go_enter Try.func11, Try.ntmps11
   go_wp2_with (first | (go_at_call 22; (with_reducible refine (in_true a0_0 0 1000 _ CL.out).mono ?_); rintro e w' ⟨rfl, ⟨nd, rfl⟩⟩) | (go_at_call 22; (with_reducible refine (in_true a0_1 0 1000 _ CR.out).mono ?_); rintro e w' ⟨rfl, ⟨nd, rfl⟩⟩) | (go_at_call 22; (with_reducible refine (in_false a1 0 100000000 _ CP.out).mono ?_); rintro e w' ⟨rfl, ⟨nd, rfl⟩⟩) | (go_at_call 22; (with_reducible refine (in_true l2.length 1 64 _ CN.out).mono ?_); rintro e w' ⟨rfl, ⟨nd, rfl⟩⟩))
   go_ret2
   refine ⟨rfl, ?_⟩
   repeat (first | (with_reducible first | exact hb | apply below_alloc | apply pw_below_drewN | apply below_drew1))
  ·replace CL := Aside0.mk CL
   replace CR := Aside0.mk CR
   clear C
   go_enter Try.func11, Try.ntmps11
   go_wp2_with (first | (go_at_call 22; (with_reducible refine (in_true a0_0 0 1000 _ CL.out).mono ?_); rintro e w' ⟨rfl, ⟨nd, rfl⟩⟩) | (go_at_call 22; (with_reducible refine (in_false a0_1 0 1000 _ CR.out).mono ?_); rintro e w' ⟨rfl, ⟨nd, rfl⟩⟩) | (go_at_call 22; (with_reducible refine (in_true a1 0 100000000 _ CP.out).mono ?_); rintro e w' ⟨rfl, ⟨nd, rfl⟩⟩) | (go_at_call 22; (with_reducible refine (in_true l2.length 1 64 _ CN.out).mono ?_); rintro e w' ⟨rfl, ⟨nd, rfl⟩⟩))
   go_ret2
   refine ⟨rfl, ?_⟩
   repeat (first | (with_reducible first | exact hb | apply below_alloc | apply pw_below_drewN | apply below_drew1))
 ·replace CL := Aside0.mk CL
  clear C
  go_enter Try.func11, Try.ntmps11
  go_wp2_with (first | (go_at_call 22; (with_reducible refine (in_false a0_0 0 1000 _ CL.out).mono ?_); rintro e w' ⟨rfl, ⟨nd, rfl⟩⟩) | (go_at_call 22; (with_reducible refine (in_true a0_1 0 1000 _ CR.out).mono ?_); rintro e w' ⟨rfl, ⟨nd, rfl⟩⟩) | (go_at_call 22; (with_reducible refine (in_true a1 0 100000000 _ CP.out).mono ?_); rintro e w' ⟨rfl, ⟨nd, rfl⟩⟩) | (go_at_call 22; (with_reducible refine (in_true l2.length 1 64 _ CN.out).mono ?_); rintro e w' ⟨rfl, ⟨nd, rfl⟩⟩))
  go_ret2
  refine ⟨rfl, ?_⟩
  repeat (first | (with_reducible first | exact hb | apply below_alloc | apply pw_below_drewN | apply below_drew1))
set_option maxHeartbeats 2000000 in
theorem days_good (a0_0 a0_1 a1 : Int) (A2 : Option Addr) (c2 : Nat) (l2 : List Int) (w : World) (HR : Aside0 (Kd.C (Kd.int .i64) w A2 l2.length l2)) (CL : Aside0 (0 ≤ a0_0 ∧ a0_0 ≤ 1000)) (CR : Aside0 (0 ≤ a0_1 ∧ a0_1 ≤ 1000)) (CP : Aside0 (0 ≤ a1 ∧ a1 ≤ 100000000)) (g1 : 1 ≤ l2.length) (g2 : l2.length ≤ 64) (HALL : Aside0 (l2.all shareB = !false)) :
  Calls Try.prog 11 #[.agg #[.int .i64 a0_0, .int .i64 a0_1], .int .i64 a1, .slice A2 l2.length c2] w fun e w' => e = .returned (.tuple #[.int .i64 (dsum a0_0 a0_1 l2 (evens a1 l2.length) l2.length), .int .i64 0]) ∧ Below w.heap.size w w' := by
 have hu23 := Try.underlying23
 have hb : Below w.heap.size w w := Below.refl _ _
 have CN := Aside0.mk (show 1 ≤ (l2.length : Int) ∧ (l2.length : Int) ≤ 64 by omega)
 have hE : split_Even.f a1 l2.length = some (evens a1 l2.length, 0) := by
  unfold split_Even.f
  have h1 := CP.out
  have h2 := CN.out
  rw [if_neg (not_not_intro ⟨h1.1, by omega⟩), if_neg (not_not_intro h2)]
 have HE := Aside0.mk hE
 clear hE
 go_enter Try.func11, Try.ntmps11
 go_wp2_with (first | (go_at_call 22; (with_reducible refine (in_true a0_0 0 1000 _ CL.out).mono ?_); rintro e w' ⟨rfl, ⟨nd, rfl⟩⟩) | (go_at_call 22; (with_reducible refine (in_true a0_1 0 1000 _ CR.out).mono ?_); rintro e w' ⟨rfl, ⟨nd, rfl⟩⟩) | (go_at_call 22; (with_reducible refine (in_true a1 0 100000000 _ CP.out).mono ?_); rintro e w' ⟨rfl, ⟨nd, rfl⟩⟩) | (go_at_call 22; (with_reducible refine (in_true l2.length 1 64 _ CN.out).mono ?_); rintro e w' ⟨rfl, ⟨nd, rfl⟩⟩) | (go_at_call 23; (with_reducible refine (contains23 A2 c2 l2 _ false ?s1 (by omega) HALL.out).mono ?_); (case s1 => repeat (first | exact HR.out | (with_reducible refine Kd.C_alloc ?_ _) | (with_reducible refine Kd.C_drewN ?_ _) | (with_reducible refine Kd.C_drew ?_))); rintro e w' ⟨rfl, ⟨nd, rfl⟩⟩) | (go_at_call 25; (with_reducible refine (split_Even.calls a1 l2.length _ _ _ HE.out).mono ?_); rintro e w1 ⟨v0, rfl, hP, hB2⟩; have HP := Aside0.mk hP; have HB2 := Aside0.mk hB2; clear hP hB2))
 have hB1 : Below w.heap.size w w1 := by
  refine below_step ?_ HB2.out
  repeat (first | (with_reducible first | exact hb | apply below_alloc | apply pw_below_drewN | apply below_drew1))
 have x0 : w1.cell? ⟨w.heap.size, 0, none⟩ = some (.int .i64 a0_0) := by rw [HB2.out.cell (p := ⟨w.heap.size, 0, none⟩) (by simp)]; simp
 have x1 : w1.cell? ⟨w.heap.size, 1, none⟩ = some (.int .i64 a0_1) := by rw [HB2.out.cell (p := ⟨w.heap.size, 1, none⟩) (by simp)]; simp
 have X0 := Aside0.mk x0
 have X1 := Aside0.mk x1
 have HB := Aside0.mk hB1
 obtain ⟨g, cap, rfl⟩ := R_open HP.out (by intro hc; have := congrArg List.length hc; rw [evens_len, List.length_nil] at this; omega)
 rw [evens_len] at HP ⊢
 clear x0 x1 hB1
 go_loopw [10, 46] (fun v10 v46 wr => ∃ k : Nat, k ≤ l2.length ∧ v46 = .int .i64 k ∧ v10 = .int .i64 (dsum a0_0 a0_1 l2 (evens a1 l2.length) k) ∧ Drawn0 w1 wr) (fun _ v46 _ => l2.length - (intOf v46).toNat)
 case atStart => exact ⟨0, Nat.zero_le _, rfl, rfl, Drawn0.refl _⟩
 case round =>
  obtain ⟨k, hk, rfl, rfl, ⟨m1, rfl⟩⟩ := hrel
  by_cases hlt : k < l2.length
  ·have x0 := X0.out
   have x1 := X1.out
   obtain ⟨ad, rfl, hx⟩ := Kd.at_int HR.out (k : Int) (by omega) (by omega)
   rw [Int.toNat_natCast] at hx
   have hx' := (HB.out.cell (World.block_lt_of_cell? w _ hx)).trans hx
   clear hx
   obtain ⟨hp, _⟩ := int_at HP.out k hlt
   obtain ⟨b0, b1⟩ := part_bd a1 a0_1 l2.length k hlt CP.out.1 CP.out.2 CR.out.1 CR.out.2
   obtain ⟨b2, b3⟩ := dsum_bd a1 a0_0 a0_1 l2 l2.length CP.out.1 CP.out.2 CR.out.1 CR.out.2 k hk
   have b4 : dsum a0_0 a0_1 l2 (evens a1 l2.length) k ≤ 6400000064 := by omega
   clear b3
   have hi0 : (0 : Int) ≤ k := by omega
   by_cases hge : a0_0 ≤ rd l2 k
   ·have hd := Aside0.mk (show dsum a0_0 a0_1 l2 (evens a1 l2.length) (k + 1) = dsum a0_0 a0_1 l2 (evens a1 l2.length) k + rd (evens a1 l2.length) k * a0_1 / 1000 by rw [dsum, if_pos hge])
    go_wp2
    go_quiet (fail)
    go_wp2
    exact ⟨⟨k + 1, hlt, rfl, by rw [hd.out], ⟨⟨_, rfl⟩⟩⟩, by simp [intOf]; omega⟩
   ·have hge' : rd l2 k < a0_0 := by omega
    clear hge
    have hd := Aside0.mk (show dsum a0_0 a0_1 l2 (evens a1 l2.length) (k + 1) = dsum a0_0 a0_1 l2 (evens a1 l2.length) k by rw [dsum, if_neg (by omega), Int.add_zero])
    go_wp2
    exact ⟨⟨k + 1, hlt, rfl, by rw [hd.out], by repeat (first | exact Drawn0.refl _ | apply Drawn0.step)⟩, by simp [intOf]; omega⟩
  ·obtain rfl : k = l2.length := by omega
   go_wp2
   go_ret2
   exact ⟨rfl, by repeat (first | exact HB.out | apply pw_below_drewN)⟩
theorem refund_Days.calls (a0_0 : Int) (a0_1 : Int) (a1 : Int) (A2 : Option Addr) (c2 : Nat) (l2 : List Int) (r1 : Int) (r2 : Int) (w : World) (hr2 : Kd.C (Kd.int .i64) w A2 l2.length l2) (hc2 : l2.length ≤ c2) (h : refund_Days.f a0_0 a0_1 a1 l2 = some (r1, r2)) :
  Calls Try.prog 11 #[.agg #[.int .i64 a0_0, .int .i64 a0_1], .int .i64 a1, .slice A2 l2.length c2] w fun e w' => e = .returned (.tuple #[.int .i64 r1, .int .i64 r2]) ∧ Below w.heap.size w w' := by
 unfold refund_Days.f at h
 by_cases c : l2.length ≤ 9223372036854775807
 ·rw [if_neg (not_not_intro c)] at h
  by_cases c1 : (0 ≤ a0_0 ∧ a0_0 ≤ 1000) ∧ (0 ≤ a0_1 ∧ a0_1 ≤ 1000) ∧ (0 ≤ a1 ∧ a1 ≤ 100000000)
  ·rw [if_neg (not_not_intro c1)] at h
   by_cases c2 : 1 ≤ l2.length ∧ l2.length ≤ 64
   ·rw [if_neg (not_not_intro c2)] at h
    cases hall : l2.all shareB with
    | false =>
     rw [if_pos hall] at h
     simp only [Option.some.injEq, Prod.mk.injEq] at h
     obtain ⟨rfl, rfl⟩ := h
     exact days_bad _ _ _ _ _ _ _ ⟨hr2⟩ ⟨c1.1⟩ ⟨c1.2.1⟩ ⟨c1.2.2⟩ c2.1 c2.2 ⟨hall⟩
    | true =>
     rw [if_neg (by rw [hall]; decide)] at h
     simp only [Option.some.injEq, Prod.mk.injEq] at h
     obtain ⟨rfl, rfl⟩ := h
     exact days_good _ _ _ _ _ _ _ ⟨hr2⟩ ⟨c1.1⟩ ⟨c1.2.1⟩ ⟨c1.2.2⟩ c2.1 c2.2 ⟨hall⟩
   ·rw [if_pos c2] at h
    simp only [Option.some.injEq, Prod.mk.injEq] at h
    obtain ⟨rfl, rfl⟩ := h
    exact days_len _ _ _ _ _ _ _ ⟨c1.1⟩ ⟨c1.2.1⟩ ⟨c1.2.2⟩ ⟨by omega⟩ c
  ·rw [if_pos c1] at h
   simp only [Option.some.injEq, Prod.mk.injEq] at h
   obtain ⟨rfl, rfl⟩ := h
   exact days_rng _ _ _ _ _ _ _ c1
 ·rw [if_pos c] at h
  cases h

end Go.Proofs.Ytfabkiacmbkpmaa.A
