-- PRINTED by print.py (a twelfth state) out of the translation. Not trusted: Lean checks it.
import Derived.Test.YtfabkiacmbkpmaaAx0
namespace Go.Proofs.Ytfabkiacmbkpmaa.A
open Go.RowKit Go.Proofs.YtfabkiacmbkpmaaW.PrintWords Go.Proofs.YtfabkiacmbkpmaaW.PrintLast Go.Proofs.YtfabkiacmbkpmaaW.PrintMore
attribute [local go_sem] max2_int min2_int max_two min_two max_three min_three max_four min_four   -- for this text's walks alone
set_option linter.unusedVariables false
set_option linter.unusedSimpArgs false

/-! ### refund_in: function 22 -/
def refund_in.f (a0 : Int) (a1 : Int) (a2 : Int) : Option (Bool) := if a0 ≥ a1 then (some (decide (a0 ≤ a2))) else (some false)
set_option maxHeartbeats 8000000 in
set_option maxRecDepth 100000 in
theorem refund_in.calls (a0 : Int) (a1 : Int) (a2 : Int) (r : Bool) (w : World) (h : refund_in.f a0 a1 a2 = some r) :
  Calls Try.prog 22 #[.int .i64 a0, .int .i64 a1, .int .i64 a2] w fun e w' => e = .returned (.bool r) ∧ Drawn0 w w' := by
 have H : (if a0 ≥ a1 then (some (decide (a0 ≤ a2))) else (some false)) = some r := h
 clear h
 by_cases c4 : a0 ≥ a1
 ·rw [if_pos c4] at H
  have c4b0 : decide (a1 ≤ a0) = true := decide_eq_true c4
  clear c4
  obtain rfl := Option.some.inj H
  go_enter Try.func22, Try.ntmps22
  go_wp2
  go_ret
  exact ⟨by first | rfl | (simp; done) | (simp [*]; done), by repeat (first | exact Drawn0.refl _ | apply Drawn0.step)⟩
 ·rw [if_neg c4] at H
  have c4b0 : decide (a1 ≤ a0) = false := decide_eq_false c4
  clear c4
  obtain rfl := Option.some.inj H
  go_enter Try.func22, Try.ntmps22
  go_wp2
  go_ret
  exact ⟨by first | rfl | (simp; done) | (simp [*]; done), by repeat (first | exact Drawn0.refl _ | apply Drawn0.step)⟩

-- NOT PRINTED: function 34 (slices_IndexFunc_int_int)

-- NOT PRINTED: function 23 (slices_ContainsFunc_int_int)

/-! ### split_isAmount: function 35 -/
def split_isAmount.f (a0 : Int) : Option (Bool) := if a0 ≥ 0 then (some (decide (a0 ≤ 1099511627776))) else (some false)
set_option maxHeartbeats 8000000 in
set_option maxRecDepth 100000 in
theorem split_isAmount.calls (a0 : Int) (r : Bool) (w : World) (h : split_isAmount.f a0 = some r) :
  Calls Try.prog 35 #[.int .i64 a0] w fun e w' => e = .returned (.bool r) ∧ Drawn0 w w' := by
 have H : (if a0 ≥ 0 then (some (decide (a0 ≤ 1099511627776))) else (some false)) = some r := h
 clear h
 by_cases c2 : a0 ≥ 0
 ·rw [if_pos c2] at H
  have c2b0 : decide (0 ≤ a0) = true := decide_eq_true c2
  clear c2
  obtain rfl := Option.some.inj H
  go_enter Try.func35, Try.ntmps35
  go_wp2
  go_ret
  exact ⟨by first | rfl | (simp; done) | (simp [*]; done), by repeat (first | exact Drawn0.refl _ | apply Drawn0.step)⟩
 ·rw [if_neg c2] at H
  have c2b0 : decide (0 ≤ a0) = false := decide_eq_false c2
  clear c2
  obtain rfl := Option.some.inj H
  go_enter Try.func35, Try.ntmps35
  go_wp2
  go_ret
  exact ⟨by first | rfl | (simp; done) | (simp [*]; done), by repeat (first | exact Drawn0.refl _ | apply Drawn0.step)⟩

-- NOT PRINTED: function 36 (split_fill_int)

/-! ### split_Even: function 25 -/
theorem in_true (a b c : Int) (w : World) (h : b ≤ a ∧ a ≤ c) : Calls Try.prog 22 #[.int .i64 a, .int .i64 b, .int .i64 c] w fun e w' => e = .returned (.bool true) ∧ Drawn0 w w' := by
 refine (refund_in.calls a b c true w ?_).mono fun _ _ h => h
 unfold refund_in.f; rw [if_pos h.1, decide_eq_true h.2]
theorem in_false (a b c : Int) (w : World) (h : ¬ (b ≤ a ∧ a ≤ c)) : Calls Try.prog 22 #[.int .i64 a, .int .i64 b, .int .i64 c] w fun e w' => e = .returned (.bool false) ∧ Drawn0 w w' := by
 refine (refund_in.calls a b c false w ?_).mono fun _ _ h => h
 unfold refund_in.f
 by_cases h1 : a ≥ b
 ·rw [if_pos h1, decide_eq_false (fun h2 => h ⟨h1, h2⟩)]
 ·rw [if_neg h1]
def evn (a n i : Int) : Int := if i < a % n then a / n + 1 else a / n
def evens (a n : Int) : List Int := (List.range n.toNat).map fun i : Nat => evn a n i
theorem evn_lt {a n i : Int} (h : i < a % n) : evn a n i = a / n + 1 := if_pos h
theorem evn_ge {a n i : Int} (h : ¬ i < a % n) : evn a n i = a / n := if_neg h
set_option maxHeartbeats 400000 in
theorem clo37 (i a n : Int) (g0 g1 : Nat) (w : World) (h0 : w.cell? ⟨g0, 0, none⟩ = some (.int .i64 a)) (h1 : w.cell? ⟨g1, 0, none⟩ = some (.int .i64 n)) (ha : 0 ≤ a) (hab : a ≤ 1099511627776) (hn : 1 ≤ n) (hn2 : n ≤ 64) :
  Calls Try.prog 37 #[.int .i64 i, .pointer (some ⟨g0, 0, none⟩), .pointer (some ⟨g1, 0, none⟩)] w fun e w' => e = .returned (.int .i64 (evn a n i)) ∧ w = w' := by
 have q0 : 0 ≤ a / n := Int.ediv_nonneg ha (by omega)
 have q1 : a / n ≤ a := Int.ediv_le_self _ ha
 by_cases h : i < a % n
 ·rw [evn_lt h]
  go_enter Try.func37, Try.ntmps37
  go_wp2
  go_ret
  exact ⟨by first | rfl | simp, rfl⟩
 ·rw [evn_ge h]
  have h' : a % n ≤ i := by omega
  clear h
  go_enter Try.func37, Try.ntmps37
  go_wp2
  go_ret
  exact ⟨by first | rfl | simp, rfl⟩
theorem R_open {α : Type} {d : Kd α} {e base : Nat} {w : World} {ok : Nat → Prop} {v : Value} {xs : List α} (h : d.R e w base ok v xs) (hne : xs ≠ []) : ∃ g cap, v = .slice (some ⟨g, 0, none⟩) xs.length cap := by
 obtain ⟨inner, hown⟩ := Kd.R_own h
 rcases hown.2 with ⟨hv, hi⟩ | ⟨g, cap, cur, hv, _⟩
 ·exfalso
  have h1 := hown.1
  subst hv
  obtain ⟨A, c, hs⟩ := Kd.R_slice h
  injection hs with _ hl _
  exact hne (List.length_eq_zero_iff.1 hl.symm)
 ·exact ⟨g, cap, hv⟩
theorem set_app (xs ys : List Int) (y x : Int) : (xs ++ y :: ys).set xs.length x = (xs ++ [x]) ++ ys := by
 rw [List.set_append_right _ _ (Nat.le_refl _)]; simp
def evTo (a n : Int) (k : Nat) : List Int := ((List.range k).map fun i : Nat => evn a n i) ++ List.replicate (n.toNat - k) 0
theorem evTo_len (a n : Int) (k : Nat) (h : k ≤ n.toNat) : (evTo a n k).length = n.toNat := by simp [evTo]; omega
theorem evTo_set (a n : Int) (k : Nat) (h : k < n.toNat) : (evTo a n k).set k (evn a n k) = evTo a n (k + 1) := by
 unfold evTo
 have h1 : List.replicate (n.toNat - k) (0 : Int) = 0 :: List.replicate (n.toNat - (k + 1)) 0 := by
  rw [show n.toNat - k = (n.toNat - (k + 1)) + 1 by omega, List.replicate_succ]
 rw [h1]
 have h2 := set_app ((List.range k).map fun i : Nat => evn a n i) (List.replicate (n.toNat - (k + 1)) 0) 0 (evn a n k)
 simp only [List.length_map, List.length_range] at h2
 rw [h2, List.range_succ, List.map_append]; rfl
theorem evTo_end (a n : Int) : evTo a n n.toNat = evens a n := by simp [evTo, evens]
theorem int_at {kk : IntKind} {e base g n cap : Nat} {W : World} {ok : Nat → Prop} {xs : List Int} (h : (Kd.int kk).R e W base ok (.slice (some ⟨g, 0, none⟩) n cap) xs) (k : Nat) (hk : k < n) :
  W.cell? ⟨g, k, none⟩ = some (.int kk (rd xs k)) ∧ W.frozen? ⟨g, k, none⟩ = false := by
 obtain rfl := (Kd.R_reads' h).1
 have := Kd.R_cell (enc := Value.int kk) (h1 := fun _ => rfl) 0 h (k : Int) (by omega) (by omega)
 simpa [rd, rdOf] using this
theorem int_put {kk : IntKind} {e base g n cap : Nat} {W : World} {ok : Nat → Prop} {xs : List Int} (h : (Kd.int kk).R e W base ok (.slice (some ⟨g, 0, none⟩) n cap) xs) (k : Nat) (x : Int) :
  (Kd.int kk).R e (W.setCell ⟨g, k, none⟩ (.int kk x)) base ok (.slice (some ⟨g, 0, none⟩) n cap) (xs.set k x) := by
 obtain rfl := (Kd.R_reads' h).1
 have := (Kd.R_put (enc := Value.int kk) (h1 := fun _ => rfl) h (k : Int) x).1
 rw [Int.toNat_natCast] at this
 exact this
theorem int_base {kk : IntKind} {e base g n cap : Nat} {W : World} {ok : Nat → Prop} {xs : List Int} (h : (Kd.int kk).R e W base ok (.slice (some ⟨g, 0, none⟩) n cap) xs) : base ≤ g := Kd.R_base h g rfl
theorem evTo_zero (a n : Int) : evTo a n 0 = List.replicate n.toNat 0 := by simp [evTo]
set_option maxHeartbeats 1000000 in
theorem fill36 (a : Int) (m : Nat) (g0 g1 : Nat) (w : World) (h0 : w.cell? ⟨g0, 0, none⟩ = some (.int .i64 a)) (h1 : w.cell? ⟨g1, 0, none⟩ = some (.int .i64 m)) (ha : 0 ≤ a) (hab : a ≤ 1099511627776) (hn : 1 ≤ m) (hn2 : m ≤ 64) :
  Calls Try.prog 36 #[.int .i64 m, .func (.func 37) #[] #[.pointer (some ⟨g0, 0, none⟩), .pointer (some ⟨g1, 0, none⟩)]] w fun e w' => ∃ v0_ : Value, e = .returned v0_ ∧ Kd.R (Kd.int .i64) 3 w' w.heap.size (fun _ => True) v0_ (evens a m) ∧ Below w.heap.size w w' := by
 have H0 := Aside0.mk h0
 have H1 := Aside0.mk h1
 clear h0 h1
 have HB := Aside0.mk (Below.refl w.heap.size w)
 go_enter Try.func36, Try.ntmps36
 go_wp2_with (((with_reducible refine gate_dst (N := 8) rfl ?_); refine Kd.R_make (Kd.int .i64) _ 3 rfl (N := 8) rfl 24 _ _ rfl (m : Int) rfl rfl Try.underlying24 (.int .i64 0) 8 info3 rfl (by decide) (by omega) 0 (ok := fun _ => True) (okp := fun _ => True) rfl (fun _ hk => hk) trivial (by omega) (by omega) (Below.refl _ _) (Nat.le_refl _) ?_; intro v1 w1 ho8 hb hg_ hnew_; clear hg_ hnew_; obtain ⟨g, cap, hv⟩ := R_open ho8 (by intro hc; have := congrArg List.length hc; simp at this; omega); rw [List.length_replicate, Int.toNat_natCast] at hv; subst hv; rw [← evTo_zero a] at ho8; have HO := Aside0.mk ho8; have HB1 := Aside0.mk hb; clear ho8 hb HB))
 go_loopw [11] (fun v11 wr => ∃ k : Nat, k ≤ m ∧ v11 = .int .i64 k ∧ Aside0 (Kd.R (Kd.int .i64) 3 wr w.heap.size (fun _ => True) (.slice (some ⟨g, 0, none⟩) m cap) (evTo a m k)) ∧ Aside0 (Below w.heap.size w wr)) (fun v11 _ => m - (intOf v11).toNat)
 case atStart => exact ⟨0, Nat.zero_le _, rfl, HO, HB1⟩
 case round =>
  clear HO HB1
  obtain ⟨k, hk, rfl, HO, HB⟩ := hrel
  by_cases hlt : k < m
  ·obtain ⟨hcell, hfro⟩ := int_at HO.out k hlt
   have e0 : wr.cell? ⟨g0, 0, none⟩ = some (.int .i64 a) := (HB.out.cell (World.block_lt_of_cell? w _ H0.out)).trans H0.out
   have e1 : wr.cell? ⟨g1, 0, none⟩ = some (.int .i64 m) := (HB.out.cell (World.block_lt_of_cell? w _ H1.out)).trans H1.out
   have C37 := Aside0.mk (clo37 k a m g0 g1 wr e0 e1 ha hab (by omega) (by omega))
   clear e0 e1
   go_wp2_with (go_at_call 37; (with_reducible refine C37.out.mono ?_); rintro e w' ⟨rfl, rfl⟩)
   have hset := evTo_set a m k (by simpa using hlt)
   have hput := int_put HO.out k (evn a m k)
   rw [hset] at hput
   exact ⟨⟨k + 1, hlt, rfl, ⟨hput⟩, ⟨HB.out.setCell (int_base HO.out) _⟩⟩, by simp [intOf]; omega⟩
  ·obtain rfl : k = m := by omega
   clear hlt
   go_wp2
   go_ret
   refine ⟨_, rfl, ?_, HB.out⟩
   have hr := HO.out
   have he := evTo_end a k
   rw [Int.toNat_natCast] at he
   rw [he] at hr
   exact hr
def split_Even.f (a0 a1 : Int) : Option (List Int × Int) :=
 if ¬ (0 ≤ a0 ∧ a0 ≤ 1099511627776) then some ([], 2) else if ¬ (1 ≤ a1 ∧ a1 ≤ 64) then some ([], 1) else some (evens a0 a1, 0)
theorem amount_true (a : Int) (w : World) (h : 0 ≤ a ∧ a ≤ 1099511627776) : Calls Try.prog 35 #[.int .i64 a] w fun e w' => e = .returned (.bool true) ∧ Drawn0 w w' := by
 refine (split_isAmount.calls a true w ?_).mono fun _ _ h => h
 unfold split_isAmount.f; rw [if_pos h.1, decide_eq_true h.2]
theorem amount_false (a : Int) (w : World) (h : ¬ (0 ≤ a ∧ a ≤ 1099511627776)) : Calls Try.prog 35 #[.int .i64 a] w fun e w' => e = .returned (.bool false) ∧ Drawn0 w w' := by
 refine (split_isAmount.calls a false w ?_).mono fun _ _ h => h
 unfold split_isAmount.f
 by_cases h1 : a ≥ 0
 ·rw [if_pos h1, decide_eq_false (fun h2 => h ⟨h1, h2⟩)]
 ·rw [if_neg h1]
set_option maxHeartbeats 1000000 in
theorem split_Even.calls (a0 : Int) (a1 : Int) (r1 : List Int) (r2 : Int) (w : World) (h : split_Even.f a0 a1 = some (r1, r2)) :
  Calls Try.prog 25 #[.int .i64 a0, .int .i64 a1] w fun e w' => ∃ v0_ : Value, e = .returned (.tuple #[v0_, .int .i64 r2]) ∧ Kd.R (Kd.int .i64) 3 w' w.heap.size (fun _ => True) v0_ r1 ∧ Below w.heap.size w w' := by
 unfold split_Even.f at h
 have hb : Below w.heap.size w w := Below.refl _ _
 by_cases c : 0 ≤ a0 ∧ a0 ≤ 1099511627776
 ·rw [if_neg (by simpa using c)] at h
  have C := Aside0.mk c; clear c
  by_cases c : 1 ≤ a1 ∧ a1 ≤ 64
  ·rw [if_neg (by simpa using c)] at h
   simp only [Option.some.injEq, Prod.mk.injEq] at h
   obtain ⟨rfl, rfl⟩ := h
   obtain ⟨m, rfl⟩ := Int.eq_ofNat_of_zero_le (show 0 ≤ a1 by omega)
   have D := Aside0.mk c; 
   obtain ⟨c1, c2⟩ := c
   go_enter Try.func25, Try.ntmps25
   go_wp2_with (first | (go_at_call 35; (with_reducible refine (amount_true a0 _ C.out).mono ?_); rintro e w' ⟨rfl, ⟨nd, rfl⟩⟩))
   have hB1 : Below w.heap.size w (((w.alloc (.cells #[.int .i64 a0] 3)).alloc (.cells #[.int .i64 m] 3)).drewN nd) := by
    repeat (first | (with_reducible first | exact hb | apply below_alloc | apply pw_below_drewN))
   refine (fill36 a0 m w.heap.size (w.heap.size + 1) _ (by simp) (by simp) C.out.1 C.out.2 (by omega) (by omega)).mono ?_
   rintro e w' ⟨v0, rfl, hR, hB2⟩
   have hsz := hB1.size
   have hR' := Aside0.mk (Kd.R_lower hR hsz)
   have hB' := Aside0.mk (below_step hB1 hB2)
   clear hR hB1 hB2 hsz
   go_wp2
   go_ret2
   exact ⟨_, rfl, hR'.out, hB'.out⟩
  ·rw [if_pos (by simpa using c)] at h
   simp only [Option.some.injEq, Prod.mk.injEq] at h
   obtain ⟨rfl, rfl⟩ := h
   have D := Aside0.mk c; clear c
   by_cases h1 : a1 < 1
   ·go_enter Try.func25, Try.ntmps25
    go_wp2_with (first | (go_at_call 35; (with_reducible refine (amount_true a0 _ C.out).mono ?_); rintro e w' ⟨rfl, ⟨nd, rfl⟩⟩))
    go_ret2
    refine ⟨_, rfl, Kd.R_nil _ _ _ _ _, ?_⟩
    repeat (first | (with_reducible first | exact hb | apply below_alloc | apply pw_below_drewN))
   ·have h2 : 64 < a1 := by have := D.out; omega
    have h1' : 1 ≤ a1 := by omega
    clear h1
    go_enter Try.func25, Try.ntmps25
    go_wp2_with (first | (go_at_call 35; (with_reducible refine (amount_true a0 _ C.out).mono ?_); rintro e w' ⟨rfl, ⟨nd, rfl⟩⟩))
    go_ret2
    refine ⟨_, rfl, Kd.R_nil _ _ _ _ _, ?_⟩
    repeat (first | (with_reducible first | exact hb | apply below_alloc | apply pw_below_drewN))
 ·rw [if_pos (by simpa using c)] at h
  simp only [Option.some.injEq, Prod.mk.injEq] at h
  obtain ⟨rfl, rfl⟩ := h
  have C := Aside0.mk c; clear c
  go_enter Try.func25, Try.ntmps25
  go_wp2_with (first | (go_at_call 35; (with_reducible refine (amount_false a0 _ C.out).mono ?_); rintro e w' ⟨rfl, ⟨nd, rfl⟩⟩))
  go_ret2
  refine ⟨_, rfl, Kd.R_nil _ _ _ _ _, ?_⟩
  repeat (first | (with_reducible first | exact hb | apply below_alloc | apply pw_below_drewN))

end Go.Proofs.Ytfabkiacmbkpmaa.A
