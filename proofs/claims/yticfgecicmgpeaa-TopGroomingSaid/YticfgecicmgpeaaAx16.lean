-- PRINTED by print.py (a twelfth state) out of the translation. Not trusted: Lean checks it.
import Derived.Test.YticfgecicmgpeaaAx0
import Derived.Test.YticfgecicmgpeaaAx6
import Derived.Test.YticfgecicmgpeaaAx7
namespace Go.Proofs.Yticfgecicmgpeaa.A
open Go.RowKit Go.Proofs.YticfgecicmgpeaaW.PrintWords Go.Proofs.YticfgecicmgpeaaW.PrintLast Go.Proofs.YticfgecicmgpeaaW.PrintMore
attribute [local go_sem] max2_int min2_int max_two min_two max_three min_three max_four min_four   -- for this text's walks alone
set_option linter.unusedVariables false
set_option linter.unusedSimpArgs false

/-! ### rescue_Plan: function 23 -/
theorem k43_heap : Kd.Heap k43 := Kd.heap_iso _ (Kd.heap_pair (Kd.heap_int .i64) (Kd.heap_pair (Kd.heap_int .i64) (Kd.heap_int .i64)))
set_option maxHeartbeats 1000000 in
theorem clone48 (ad : Addr) (c0 : Nat) (l0 : List S43) (w : World) (hr0 : Kd.C k43 w (some ad) l0.length l0) (hl : l0.length < 1000) :
  Calls Try.prog 48 #[.slice (some ad) l0.length c0] w fun e w' => ∃ v0_ : Value, e = .returned (v0_) ∧ Kd.N k43 43 w' w.heap.size (fun _ => True) v0_ l0 ∧ Below w.heap.size w w' := by
 have HF := Aside0.mk (Kd.C_F k43_heap hr0)
 have HB := Aside0.mk (Below.refl w.heap.size w)
 clear hr0
 have hq : ∀ W : World, (binOp .eql 44 (.slice (some ad) l0.length c0) (.slice none 0 0)).run Try.prog W = .ok (.bool false) W := fun W => Lib.run_eql_slice_nil W 44 43 (some ad) l0.length c0 0 0 Try.underlying44
 go_enter Try.func48, Try.ntmps48
 go_wp2_with (first | ((with_reducible refine gate_dst (N := 5) rfl ?_); refine Kd.N_lit k43 (w0 := w) w.heap.size 43 rfl (N' := 5) rfl (xs := []) (inner := []) (ok := fun _ => True) (okp := fun _ => False) ?aR (Reps.none _ _) (fun _ h => h.elim) trivial HB.out (Nat.le_refl _) (by simp) ?_; (case aR => first | (go_simp; done) | (go_simp; rfl)); intro v1 w1 ho hb hg hat; have HO := Aside0.mk ho; have HB1 := Aside0.mk hb; have HF1 := Aside0.mk (Kd.F_below HF.out hb); have HT := Aside0.mk hat; clear ho hb hg hat HB HF) | ((with_reducible refine gate_dst (N := 7) rfl ?_); refine Kd.N_append_rows k43 (w0 := w) w.heap.size rfl (.tmp 5) (.tmp 6) 44 43 (.agg #[(.int .i64 0), (.int .i64 0), (.int .i64 0)]) 24 rfl Try.underlying44 info43 rfl (by decide) (by omega) v1 ([] : List S43) l0 _ _ _ (fun _ => True) (fun k => k < w.heap.size) rfl rfl ?aO ?aR ?aK ?aF ?aB ?aS ?aL ?_; (case aO => exact HO.out); (case aR => exact HF1.out); (case aK => exact (fun k hk => ⟨trivial, fun he => by obtain ⟨b, hb, hle⟩ := HT.out; rw [hb] at he; injection he with he; have hk2 : k < w.heap.size := hk; omega⟩)); (case aF => exact (fun _ _ => trivial)); (case aB => exact HB1.out); (case aS => exact HB1.out.size); (case aL => simp; omega); intro v2 w2 ho hb hg hat; have HO2 := Aside0.mk ho; have HB2 := Aside0.mk hb; clear ho hb hg hat HB1 HO HF1))
 go_ret
 exact ⟨_, by first | rfl | (simp; done), HO2.out, HB2.out⟩
set_option maxHeartbeats 1000000 in
theorem clone50 (ad : Addr) (c0 : Nat) (l0 : List Int) (w : World) (hr0 : Kd.C (Kd.int .i64) w (some ad) l0.length l0) (hl : l0.length < 1000) :
  Calls Try.prog 50 #[.slice (some ad) l0.length c0] w fun e w' => ∃ v0_ : Value, e = .returned (v0_) ∧ Kd.N (Kd.int .i64) 3 w' w.heap.size (fun _ => True) v0_ l0 ∧ Below w.heap.size w w' := by
 have HF := Aside0.mk (Kd.C_F (Kd.heap_int .i64) hr0)
 have HB := Aside0.mk (Below.refl w.heap.size w)
 clear hr0
 have hq : ∀ W : World, (binOp .eql 32 (.slice (some ad) l0.length c0) (.slice none 0 0)).run Try.prog W = .ok (.bool false) W := fun W => Lib.run_eql_slice_nil W 32 3 (some ad) l0.length c0 0 0 Try.underlying32
 go_enter Try.func50, Try.ntmps50
 go_wp2_with (first | ((with_reducible refine gate_dst (N := 5) rfl ?_); refine Kd.N_lit (Kd.int .i64) (w0 := w) w.heap.size 3 rfl (N' := 5) rfl (xs := []) (inner := []) (ok := fun _ => True) (okp := fun _ => False) ?aR (Reps.none _ _) (fun _ h => h.elim) trivial HB.out (Nat.le_refl _) (by simp) ?_; (case aR => first | (go_simp; done) | (go_simp; rfl)); intro v1 w1 ho hb hg hat; have HO := Aside0.mk ho; have HB1 := Aside0.mk hb; have HF1 := Aside0.mk (Kd.F_below HF.out hb); have HT := Aside0.mk hat; clear ho hb hg hat HB HF) | ((with_reducible refine gate_dst (N := 7) rfl ?_); refine Kd.N_append_rows (Kd.int .i64) (w0 := w) w.heap.size rfl (.tmp 5) (.tmp 6) 32 3 (.int .i64 0) 8 rfl Try.underlying32 info3 rfl (by decide) (by omega) v1 ([] : List Int) l0 _ _ _ (fun _ => True) (fun k => k < w.heap.size) rfl rfl ?aO ?aR ?aK ?aF ?aB ?aS ?aL ?_; (case aO => exact HO.out); (case aR => exact HF1.out); (case aK => exact (fun k hk => ⟨trivial, fun he => by obtain ⟨b, hb, hle⟩ := HT.out; rw [hb] at he; injection he with he; have hk2 : k < w.heap.size := hk; omega⟩)); (case aF => exact (fun _ _ => trivial)); (case aB => exact HB1.out); (case aS => exact HB1.out.size); (case aL => simp; omega); intro v2 w2 ho hb hg hat; have HO2 := Aside0.mk ho; have HB2 := Aside0.mk hb; clear ho hb hg hat HB1 HO HF1))
 go_ret
 exact ⟨_, by first | rfl | (simp; done), HO2.out, HB2.out⟩
set_option maxHeartbeats 400000 in
theorem clo49 (f0 f1 f2 : Int) (w : World) (hz : ¬ f1 = 0) :
  Calls Try.prog 49 #[.agg #[.int .i64 f0, .int .i64 f1, .int .i64 f2]] w fun e w' => e = .returned (.bool false) ∧ Below w.heap.size w w' := by
 have hu43 := Try.underlying43
 have hbel : Below w.heap.size w w := Below.refl _ _
 have hb : (f1 == 0) = false := beq_eq_false_iff_ne.mpr hz
 clear hz
 go_enter Try.func49, Try.ntmps49
 go_wp2
 go_ret
 exact ⟨by first | rfl | (simp; done) | (simp [hb]; done), by repeat (first | (with_reducible first | exact hbel | apply below_alloc))⟩
set_option maxHeartbeats 2000000 in
set_option maxRecDepth 100000 in
theorem idx54 (A : Option Addr) (c : Nat) (l : List S43) (w : World) (hr : Kd.C k43 w A l.length l) (hc : l.length ≤ c) (hz : ∀ j : Nat, j < l.length → ¬ (rd_T43 l j).f1 = 0) :
  Calls Try.prog 54 #[.slice A l.length c, .func (.func 49) #[] #[]] w fun e w' => e = .returned (.int .i64 (-1)) ∧ Below w.heap.size w w' := by
 have hu43 := Try.underlying43
 have hl : l.length ≤ 9223372036854775807 := hr.2.1
 have HR := Aside0.mk hr
 have HC := Aside0.mk hc
 have HZ := Aside0.mk hz
 clear hr hc hz
 go_enter Try.func54, Try.ntmps54
 go_wp2_with fail
 go_loopw [8] (fun v8 wr => ∃ k : Nat, k ≤ l.length ∧ v8 = .int .i64 k ∧ Aside0 (Below w.heap.size w wr)) (fun v8 _ => l.length - (intOf v8).toNat)
 case atStart => exact ⟨0, Nat.zero_le _, rfl, ⟨Below.refl _ _⟩⟩
 case round =>
  obtain ⟨k, hk, rfl, HB⟩ := hrel
  by_cases hlt : k < l.length
  ·obtain ⟨ad, rfl, x0, x1, x2⟩ := at_T43 HR.out (k : Int) (by omega) (by omega)
   rw [Int.toNat_natCast] at x0 x1 x2
   replace x0 := (HB.out.cell (World.block_lt_of_cell? w _ x0)).trans x0
   replace x1 := (HB.out.cell (World.block_lt_of_cell? w _ x1)).trans x1
   replace x2 := (HB.out.cell (World.block_lt_of_cell? w _ x2)).trans x2
   have HQ := Aside0.mk (HZ.out k hlt)
   go_wp2_with (go_at_call 49; (with_reducible refine (clo49 _ _ _ _ HQ.out).mono ?_); rintro e w2 ⟨rfl, hb2⟩; have HB2 := Aside0.mk (below_step HB.out hb2); clear hb2)
   exact ⟨⟨k + 1, hlt, rfl, HB2⟩, by simp [intOf]; omega⟩
  ·obtain rfl : k = l.length := by omega
   clear hlt hk
   go_wp2
   go_ret
   exact ⟨by first | rfl | (simp; done), HB.out⟩
set_option maxHeartbeats 400000 in
theorem del47 (A : Option Addr) (c : Nat) (l : List S43) (w : World) (hr : Kd.C k43 w A l.length l) (hc : l.length ≤ c) (hz : ∀ j : Nat, j < l.length → ¬ (rd_T43 l j).f1 = 0) :
  Calls Try.prog 47 #[.slice A l.length c, .func (.func 49) #[] #[]] w fun e w' => e = .returned (.slice A l.length c) ∧ Below w.heap.size w w' := by
 have HR := Aside0.mk hr
 have HC := Aside0.mk hc
 have HZ := Aside0.mk hz
 clear hr hc hz
 go_enter Try.func47, Try.ntmps47
 go_wp2_with fail
 refine (idx54 A c l _ HR.out HC.out HZ.out).mono ?_
 rintro e w' ⟨rfl, hb⟩
 have HB := Aside0.mk hb
 clear hb
 go_wp2
 go_ret
 exact ⟨by first | rfl | (simp; done), HB.out⟩
set_option maxHeartbeats 400000 in
theorem need35 (ad : Addr) (c : Nat) (l : List S43) (w : World) (hr : Kd.C k43 w (some ad) l.length l) (hl : l.length < 1000) (hz : ∀ j : Nat, j < l.length → ¬ (rd_T43 l j).f1 = 0) :
  Calls Try.prog 35 #[.slice (some ad) l.length c] w fun e w' => ∃ v0_ : Value, e = .returned v0_ ∧ Kd.N k43 43 w' w.heap.size (fun _ => True) v0_ l ∧ Below w.heap.size w w' := by
 have HR := Aside0.mk hr
 have HZ := Aside0.mk hz
 clear hr hz
 go_enter Try.func35, Try.ntmps35
 go_wp2_with fail
 refine (clone48 ad c l _ HR.out hl).mono ?_
 rintro e w1 ⟨v0, rfl, hN, hb⟩
 obtain ⟨A1, c1, rfl⟩ := Kd.N_slice hN
 obtain ⟨_, hle, hC⟩ := Kd.N_reads' hN
 have HN := Aside0.mk hN
 have HB := Aside0.mk hb
 have HC := Aside0.mk hC
 have HLE := Aside0.mk hle
 clear hN hb hC hle
 go_wp2_with fail
 refine (del47 A1 c1 l _ HC.out HLE.out HZ.out).mono ?_
 rintro e w2 ⟨rfl, hb⟩
 have HN2 := Aside0.mk (Kd.N_below HN.out hb)
 have HB2 := Aside0.mk (below_step HB.out hb)
 clear hb
 go_wp2
 go_ret
 exact ⟨_, by first | rfl | (simp; done), HN2.out, HB2.out⟩
def upT {β : Type} (f : Nat → β → β) : Nat → β → β
 | 0, b => b
 | k + 1, b => f (k + 1) (upT f k b)
theorem upT_succ {β : Type} (f : Nat → β → β) (k : Nat) (b : β) : upT f (k + 1) b = f (k + 1) (upT f k b) := rfl
def lastV (en : List Int) : Int := mx (mx (rd en 1) (rd en 2)) (rd en 3)
def tStep (l : List S43) (F : List Int → (List Int × List Int × Int) → (List Int × List Int × Int)) (i : Nat) (en : List Int) (t : Nat) (b : List Int × List Int × Int) : List Int × List Int × Int :=
 F (en.set t (wrap64 (rd en t + (rd_T43 l i).f2))) (b.1.set i t, b.2.1, b.2.2)
/-- What try makes of the team list, the best list and the least end: n sections are left, from i on. -/
def tryV (l : List S43) : Nat → Nat → List Int → (List Int × List Int × Int) → (List Int × List Int × Int)
 | 0, _, en, b => if b.2.1.isEmpty = false ∧ b.2.2 ≤ lastV en then b else (b.1, b.1, lastV en)
 | n + 1, i, en, b => if b.2.1.isEmpty = false ∧ b.2.2 ≤ lastV en then b else upT (tStep l (tryV l n (i + 1)) i en) 2 b
def pC (l : List S43) (As : Addr) (cs gt ct : Nat) (en : List Int) (vb : Value) (e : Int) : Obj :=
 .cells #[.slice (some As) l.length cs, .slice (some ⟨gt, 0, none⟩) l.length ct, .int .i64 (rd en 0), .int .i64 (rd en 1), .int .i64 (rd en 2), .int .i64 (rd en 3), vb, .int .i64 e] 62 (0, 0)
def BT (B P gt : Nat) (W : World) (vb : Value) (best : List Int) : Prop := (best = [] → vb = .slice none 0 0) ∧ Kd.N (Kd.int .i64) 3 W B (fun k => k ≠ P ∧ k ≠ gt) vb best
theorem BT_step {B P gt : Nat} {w W : World} {vb : Value} {best : List Int} (h : BT B P gt w vb best) (hm : ∀ k, k ≠ P ∧ k ≠ gt → k < w.heap.size → W.heap[k]? = w.heap[k]?) : BT B P gt W vb best := ⟨h.1, Kd.N_step h.2 hm⟩
theorem BT_below {B P gt : Nat} {w W : World} {vb : Value} {best : List Int} (h : BT B P gt w vb best) (hb : Below w.heap.size w W) : BT B P gt W vb best := BT_step h (fun k _ hk => hb.block k hk)
theorem Nint_tight {e base : Nat} {w : World} {ok : Nat → Prop} {v : Value} {xs : List Int} (h : Kd.N (Kd.int .i64) e w base ok v xs) : Kd.N (Kd.int .i64) e w base (fun k => some k = v.ownBlock) v xs := by
 obtain ⟨h0, rows, hl, hR, hf⟩ := h
 exact ⟨fun k hk => hk.symm, rows, hl, hR, fun j x c hx hc W _ => by
  have := Kd.FK_now (hf j x c hx hc)
  exact this⟩
theorem Nint_mono {e base : Nat} {w : World} {ok ok' : Nat → Prop} {v : Value} {xs : List Int} (h : Kd.N (Kd.int .i64) e w base ok v xs) (hv : ∀ k, v.ownBlock = some k → ok' k) : Kd.N (Kd.int .i64) e w base ok' v xs := Kd.N_mono (Nint_tight h) (fun k hk => hv k hk.symm)
theorem four {en : List Int} (h : en.length = 4) : ∃ a b c d, en = [a, b, c, d] := by
 match en, h with
 | [a, b, c, d], _ => exact ⟨a, b, c, d, rfl⟩
theorem pC_cell {w : World} {P : Nat} {l : List S43} {As : Addr} {cs gt ct : Nat} {en : List Int} {vb : Value} {e : Int} (h : w.heap[P]? = some (pC l As cs gt ct en vb e)) {t : Nat} (h1 : 1 ≤ t) (h2 : t ≤ 3) : w.cell? ⟨P, 2 + t, none⟩ = some (.int .i64 (rd en t)) := by
 have hc := blk_cell h (2 + t)
 rw [hc]
 obtain rfl | rfl | rfl : t = 1 ∨ t = 2 ∨ t = 3 := by omega
 all_goals rfl
theorem pC_set {w : World} {P : Nat} {l : List S43} {As : Addr} {cs gt ct : Nat} {en : List Int} {vb : Value} {e : Int} (h : w.heap[P]? = some (pC l As cs gt ct en vb e)) (hl : en.length = 4) {t : Nat} (h1 : 1 ≤ t) (h2 : t ≤ 3) (v : Int) : (w.setCells P (2 + t) [.int .i64 v]).heap[P]? = some (pC l As cs gt ct (en.set t v) vb e) := by
 refine blk_put h (2 + t) _ ?_
 obtain ⟨a, b, c, d, rfl⟩ := four hl
 obtain rfl | rfl | rfl : t = 1 ∨ t = 2 ∨ t = 3 := by omega
 all_goals rfl
theorem rdi_at {xs : List Int} {i : Nat} (x : Int) (hi : i < xs.length) : rd (xs.set i x) i = x := by simp [rd, List.getElem?_set, hi]
theorem rdi_ne {xs : List Int} {i j : Nat} (x : Int) (h : j ≠ i) : rd (xs.set i x) j = rd xs j := by simp [rd, List.getElem?_set, Ne.symm h]
def In64 (x : Int) : Prop := -9223372036854775808 ≤ x ∧ x ≤ 9223372036854775807
theorem wrap_back {x s : Int} (hx : In64 x) : wrap64 (wrap64 (x + s) - s) = x := by
 unfold In64 at hx
 unfold wrap64
 omega
theorem wrap_in (x : Int) : In64 (wrap64 x) := by
 unfold In64 wrap64
 omega
def X36.T0 : Bool × List (List Nat × List Nat) := (true, [([], []), ([0], [0]), ([1], [1]), ([2], [2]), ([3], [3]), ([], []), ([5], [5]), ([6], [6]), ([7], [7]), ([8], [8]), ([], []), ([10], [10]), ([11], [11]), ([12], [12]), ([13], [13]), ([4, 9, 14], [4, 9, 14]), ([15, 0, 1, 2, 3, 4, 5, 6, 7, 8, 9, 10, 11, 12, 13, 14, 15], [15])])
def X36.B0 : List Nat := [0, 1, 3, 7, 15, 0, 32, 96, 224, 480, 0, 1024, 3072, 7168, 15360, 32767, 65535]
theorem X36.tab0 : rtab .any (opsOf Try.f36 0) = X36.T0 := by kernel_rfl
theorem X36.bits0 : waitsOk X36.T0.2 X36.B0 = true := by kernel_rfl
def X36.T8 : Bool × List (List Nat × List Nat) := (true, [([], []), ([], []), ([0], [0]), ([2], [2]), ([3, 1], [1, 3]), ([4], [4]), ([], []), ([6], [6]), ([7], [7]), ([8], [8]), ([], []), ([9, 10], [9, 10]), ([11], [11]), ([12], [12]), ([5, 13], [5, 13]), ([0], [0]), ([15], [15]), ([16, 1, 0, 1, 2, 3, 4, 5, 6, 7, 8, 9, 10, 11, 12, 13, 14], [1, 16]), ([17, 14, 0, 1, 2, 3, 4, 5, 6, 7, 8, 9, 10, 11, 12, 13, 14], [14, 17])])
def X36.B8 : List Nat := [0, 0, 1, 5, 15, 31, 0, 64, 192, 448, 0, 1984, 4032, 8128, 16383, 1, 32769, 131071, 262143]
theorem X36.tab8 : rtab .any (opsOf Try.f36 8) = X36.T8 := by kernel_rfl
theorem X36.bits8 : waitsOk X36.T8.2 X36.B8 = true := by kernel_rfl
def X36.T10 : Bool × List (List Nat × List Nat) := (true, [([], []), ([], []), ([0], [0]), ([2], [2]), ([3, 1], [1, 3]), ([4], [4]), ([], []), ([6], [6]), ([7], [7]), ([8], [8]), ([], []), ([9, 10], [9, 10]), ([11], [11]), ([12], [12]), ([5, 13], [5, 13]), ([0], [0]), ([15], [15]), ([16, 1, 0, 1, 2, 3, 4, 5, 6, 7, 8, 9, 10, 11, 12, 13, 14], [1, 16]), ([17, 14, 0, 1, 2, 3, 4, 5, 6, 7, 8, 9, 10, 11, 12, 13, 14], [14, 17])])
def X36.B10 : List Nat := [0, 0, 1, 5, 15, 31, 0, 64, 192, 448, 0, 1984, 4032, 8128, 16383, 1, 32769, 131071, 262143]
theorem X36.tab10 : rtab .any (opsOf Try.f36 10) = X36.T10 := by kernel_rfl
theorem X36.bits10 : waitsOk X36.T10.2 X36.B10 = true := by kernel_rfl
set_option maxHeartbeats 4000000 in
set_option maxRecDepth 100000 in
theorem try_cut (w0 : World) (l : List S43) (As : Addr) (cs P gt ct : Nat) (hl : Kd.C k43 w0 (some As) l.length l) (hlc : l.length ≤ 100) (h0 : 0 < l.length) (hP : w0.heap.size ≤ P) (hgt : w0.heap.size ≤ gt) (nPt : P ≠ gt) (hkt : l.length ≤ ct) (hks : l.length ≤ cs) (n : Nat) (i : Nat) (ii : Int) (en team : List Int) (vb : Value) (e : Int) (best : List Int) (w : World) (hii : ii = (i : Int)) (hen : en.length = 4) (hin : ∀ j : Nat, j < 4 → In64 (rd en j)) (htl : team.length = l.length) (hB0 : Below w0.heap.size w0 w) (hcP : w.heap[P]? = some (pC l As cs gt ct en vb e)) (hcT : w.heap[gt]? = some (.cells (team.map (Value.int .i64)).toArray 3 (0, 0))) (hbv : BT w0.heap.size P gt w vb best) (hb : best.isEmpty = false) (he : e ≤ lastV en) :
  Calls Try.prog 36 #[.pointer (some ⟨P, 0, none⟩), .int .i64 ii, .int .i64 2] w fun e_ w' => e_ = .returned (.tuple #[]) ∧ Frm (fun k => k = P ∨ k = gt) w w' ∧ ∃ vb' : Value, w'.heap[P]? = some (pC l As cs gt ct en vb' (tryV l n i en (team, best, e)).2.2) ∧ w'.heap[gt]? = some (.cells ((tryV l n i en (team, best, e)).1.map (Value.int .i64)).toArray 3 (0, 0)) ∧ (tryV l n i en (team, best, e)).1.length = l.length ∧ BT w0.heap.size P gt w' vb' (tryV l n i en (team, best, e)).2.1 := by
 have hS : tryV l n i en (team, best, e) = (team, best, e) := by cases n <;> rw [tryV, if_pos ⟨hb, he⟩]
 rw [hS]
 clear hS
 have hpos : 0 < best.length := by cases best with | nil => cases hb | cons _ _ => simp
 obtain ⟨gb, cb, rfl, _⟩ := Kd.N_form hbv.2 hpos
 clear hpos
 clear hb
 have HL := Aside0.mk hl
 have HEN := Aside0.mk hen
 have HIN := Aside0.mk hin
 have HTL := Aside0.mk htl
 have HB0 := Aside0.mk hB0
 have HCP := Aside0.mk hcP
 have HCT := Aside0.mk hcT
 have HBV := Aside0.mk hbv
 have hu43 := Try.underlying43
 have hu62 := Try.underlying62
 have hu60 := Try.underlying60
 clear hl hen hin htl hB0 hcP hcT hbv
 have FR := Aside0.mk (Frm.refl (fun k => k = P ∨ k = gt) w)
 have CP := Aside0.mk HCP.out
 have TM := Aside0.mk HCT.out
 have BW := Aside0.mk HBV.out
 have HBr := Aside0.mk HB0.out
 obtain ⟨M1, hM1⟩ : ∃ M1 : Int, (if rd en 1 < rd en 2 then rd en 2 else rd en 1) = M1 := ⟨_, rfl⟩
 obtain ⟨M, hM⟩ : ∃ M : Int, (if M1 < rd en 3 then rd en 3 else M1) = M := ⟨_, rfl⟩
 have HM := Aside0.mk (show lastV en = M from by unfold lastV mx; rw [hM1, hM])
 rw [HM.out] at he
 go_enter Try.func36, Try.ntmps36
 go_wp2_with fail
 have hb := below_drew (Below.refl w.heap.size w)
 have nFR_ := Aside0.mk (FR.out.trans (Frm.of_below hb))
 have nCP_ := Aside0.mk (blk_below CP.out hb)
 have nTM_ := Aside0.mk (blk_below TM.out hb)
 have nBW_ := Aside0.mk (BT_below BW.out hb)
 have nHBr_ := Aside0.mk (below_step HBr.out hb)
 clear hb
 clear FR CP TM BW HBr
 have FR := nFR_
 have CP := nCP_
 have TM := nTM_
 have BW := nBW_
 have HBr := nHBr_
 clear nFR_ nCP_ nTM_ nBW_ nHBr_
 refine start_ (n := 17) (S := fun w' => w'.cell? ⟨P, 3, none⟩ = some (.int .i64 (rd en 1)) ∧ w'.cell? ⟨P, 4, none⟩ = some (.int .i64 (rd en 2)) ∧ w'.cell? ⟨P, 5, none⟩ = some (.int .i64 (rd en 3))) (ds := []) #[false, false, false, false, false, false, false, false, false, false, false, false, false, false, false, false, false] (by kernel_rfl) rfl rfl ⟨((blk_cell CP.out 3).trans rfl), ((blk_cell CP.out 4).trans rfl), ((blk_cell CP.out 5).trans rfl)⟩ (fun hHeld => ?_)
 refine with_tabW X36.tab0 X36.bits0 (fun HT_ HW_ => ?_)
 generalize w.drew = wd at FR CP TM BW HBr hHeld ⊢
 refine pure_ (i := 0) (N := some 8) (v := ?_) (a' := ?_) #[true, false, false, false, false, false, false, false, false, false, false, false, false, false, false, false, false] rfl rfl (any_of HT_.out (by kernel_rfl)) (fun _ _ _ h => h) (Or.inl ⟨by rfl, ?_⟩) ?_ ?_
 rotate_left
 ·intro w'
  go_simp
  with_reducible rfl
 rotate_left
 ·simp only [Act.put, List.setIfInBounds_toArray, List.set_cons_zero, List.set_cons_succ, i64_w, i32_w]
  rfl
 refine pure_ (i := 1) (N := some 9) (v := ?_) (a' := ?_) #[true, true, false, false, false, false, false, false, false, false, false, false, false, false, false, false, false] rfl rfl (any_of HT_.out (by kernel_rfl)) (fun _ _ _ h => h) (Or.inl ⟨by rfl, ?_⟩) ?_ ?_
 rotate_left
 ·intro w'
  go_simp
  with_reducible rfl
 rotate_left
 ·simp only [Act.put, List.setIfInBounds_toArray, List.set_cons_zero, List.set_cons_succ, i64_w, i32_w]
  rfl
 refine pure_ (i := 2) (N := some 10) (v := ?_) (a' := ?_) #[true, true, true, false, false, false, false, false, false, false, false, false, false, false, false, false, false] rfl rfl (any_of HT_.out (by kernel_rfl)) (fun _ _ _ h => h) (Or.inl ⟨by rfl, ?_⟩) ?_ ?_
 rotate_left
 ·intro w'
  go_simp
  with_reducible rfl
 rotate_left
 ·simp only [Act.put, List.setIfInBounds_toArray, List.set_cons_zero, List.set_cons_succ, i64_w, i32_w]
  rfl
 refine pure_ (i := 3) (N := some 11) (v := ?_) (a' := ?_) #[true, true, true, true, false, false, false, false, false, false, false, false, false, false, false, false, false] rfl rfl (any_of HT_.out (by kernel_rfl)) (fun _ _ _ h => h) (Or.inl ⟨by rfl, ?_⟩) ?_ ?_
 rotate_left
 ·intro w'
  go_simp
  with_reducible rfl
 rotate_left
 ·simp only [Act.put, List.setIfInBounds_toArray, List.set_cons_zero, List.set_cons_succ, i64_w, i32_w]
  rfl
 refine pure_ (i := 5) (N := some 13) (v := ?_) (a' := ?_) #[true, true, true, true, false, true, false, false, false, false, false, false, false, false, false, false, false] rfl rfl (any_of HT_.out (by kernel_rfl)) (fun _ _ _ h => h) (Or.inl ⟨by rfl, ?_⟩) ?_ ?_
 rotate_left
 ·intro w'
  go_simp
  with_reducible rfl
 rotate_left
 ·simp only [Act.put, List.setIfInBounds_toArray, List.set_cons_zero, List.set_cons_succ, i64_w, i32_w]
  rfl
 refine pure_ (i := 6) (N := some 14) (v := ?_) (a' := ?_) #[true, true, true, true, false, true, true, false, false, false, false, false, false, false, false, false, false] rfl rfl (any_of HT_.out (by kernel_rfl)) (fun _ _ _ h => h) (Or.inl ⟨by rfl, ?_⟩) ?_ ?_
 rotate_left
 ·intro w'
  go_simp
  with_reducible rfl
 rotate_left
 ·simp only [Act.put, List.setIfInBounds_toArray, List.set_cons_zero, List.set_cons_succ, i64_w, i32_w]
  rfl
 refine pure_ (i := 7) (N := some 15) (v := ?_) (a' := ?_) #[true, true, true, true, false, true, true, true, false, false, false, false, false, false, false, false, false] rfl rfl (any_of HT_.out (by kernel_rfl)) (fun _ _ _ h => h) (Or.inl ⟨by rfl, ?_⟩) ?_ ?_
 rotate_left
 ·intro w'
  go_simp
  with_reducible rfl
 rotate_left
 ·simp only [Act.put, List.setIfInBounds_toArray, List.set_cons_zero, List.set_cons_succ, i64_w, i32_w]
  rfl
 refine pure_ (i := 8) (N := some 16) (v := ?_) (a' := ?_) #[true, true, true, true, false, true, true, true, true, false, false, false, false, false, false, false, false] rfl rfl (any_of HT_.out (by kernel_rfl)) (fun _ _ _ h => h) (Or.inl ⟨by rfl, ?_⟩) ?_ ?_
 rotate_left
 ·intro w'
  go_simp
  with_reducible rfl
 rotate_left
 ·simp only [Act.put, List.setIfInBounds_toArray, List.set_cons_zero, List.set_cons_succ, i64_w, i32_w]
  rfl
 refine pure_ (i := 10) (N := some 18) (v := ?_) (a' := ?_) #[true, true, true, true, false, true, true, true, true, false, true, false, false, false, false, false, false] rfl rfl (any_of HT_.out (by kernel_rfl)) (fun _ _ _ h => h) (Or.inl ⟨by rfl, ?_⟩) ?_ ?_
 rotate_left
 ·intro w'
  go_simp
  with_reducible rfl
 rotate_left
 ·simp only [Act.put, List.setIfInBounds_toArray, List.set_cons_zero, List.set_cons_succ, i64_w, i32_w]
  rfl
 refine pure_ (i := 11) (N := some 19) (v := ?_) (a' := ?_) #[true, true, true, true, false, true, true, true, true, false, true, true, false, false, false, false, false] rfl rfl (any_of HT_.out (by kernel_rfl)) (fun _ _ _ h => h) (Or.inl ⟨by rfl, ?_⟩) ?_ ?_
 rotate_left
 ·intro w'
  go_simp
  with_reducible rfl
 rotate_left
 ·simp only [Act.put, List.setIfInBounds_toArray, List.set_cons_zero, List.set_cons_succ, i64_w, i32_w]
  rfl
 refine pure_ (i := 12) (N := some 20) (v := ?_) (a' := ?_) #[true, true, true, true, false, true, true, true, true, false, true, true, true, false, false, false, false] rfl rfl (any_of HT_.out (by kernel_rfl)) (fun _ _ _ h => h) (Or.inl ⟨by rfl, ?_⟩) ?_ ?_
 rotate_left
 ·intro w'
  go_simp
  with_reducible rfl
 rotate_left
 ·simp only [Act.put, List.setIfInBounds_toArray, List.set_cons_zero, List.set_cons_succ, i64_w, i32_w]
  rfl
 refine pure_ (i := 13) (N := some 21) (v := ?_) (a' := ?_) #[true, true, true, true, false, true, true, true, true, false, true, true, true, true, false, false, false] rfl rfl (any_of HT_.out (by kernel_rfl)) (fun _ _ _ h => h) (Or.inl ⟨by rfl, ?_⟩) ?_ ?_
 rotate_left
 ·intro w'
  go_simp
  with_reducible rfl
 rotate_left
 ·simp only [Act.put, List.setIfInBounds_toArray, List.set_cons_zero, List.set_cons_succ, i64_w, i32_w]
  rfl
 refine take_ (i := 4) (N := some 12) (v := ?_) (a' := ?_) #[true, true, true, true, true, true, true, true, true, false, true, true, true, true, false, false, false] rfl rfl (take_ofW HT_.out HW_.out (by kernel_rfl)) (fun _ _ _ h => h) (Or.inl ⟨by rfl, ?_⟩) hHeld ?_ ?_
 rotate_left
 ·rintro w' ⟨s0, s1, s2⟩
  go_simp
  with_reducible rfl
 rotate_left
 ·simp only [Act.put, List.setIfInBounds_toArray, List.set_cons_zero, List.set_cons_succ, i64_w, i32_w]
  rfl
 refine take_ (i := 9) (N := some 17) (v := ?_) (a' := ?_) #[true, true, true, true, true, true, true, true, true, true, true, true, true, true, false, false, false] rfl rfl (take_ofW HT_.out HW_.out (by kernel_rfl)) (fun _ _ _ h => h) (Or.inl ⟨by rfl, ?_⟩) hHeld ?_ ?_
 rotate_left
 ·rintro w' ⟨s0, s1, s2⟩
  go_simp
  with_reducible rfl
 rotate_left
 ·simp only [Act.put, List.setIfInBounds_toArray, List.set_cons_zero, List.set_cons_succ, i64_w, i32_w]
  rfl
 refine take_ (i := 14) (N := some 22) (v := ?_) (a' := ?_) #[true, true, true, true, true, true, true, true, true, true, true, true, true, true, true, false, false] rfl rfl (take_ofW HT_.out HW_.out (by kernel_rfl)) (fun _ _ _ h => h) (Or.inl ⟨by rfl, ?_⟩) hHeld ?_ ?_
 rotate_left
 ·rintro w' ⟨s0, s1, s2⟩
  go_simp
  with_reducible rfl
 rotate_left
 ·simp only [Act.put, List.setIfInBounds_toArray, List.set_cons_zero, List.set_cons_succ, i64_w, i32_w]
  rfl
 refine pure_ (i := 15) (N := some 23) (v := ?_) (a' := ?_) #[true, true, true, true, true, true, true, true, true, true, true, true, true, true, true, true, false] rfl rfl (any_of HT_.out (by kernel_rfl)) (fun _ _ _ h => h) (Or.inl ⟨by rfl, ?_⟩) ?_ ?_
 rotate_left
 ·intro w'
  go_simp
  with_reducible rfl
 rotate_left
 ·simp only [Act.put, List.setIfInBounds_toArray, List.set_cons_zero, List.set_cons_succ, i64_w, i32_w]
  rfl
 refine pure_ (i := 16) (N := some 6) (v := ?_) (a' := ?_) #[true, true, true, true, true, true, true, true, true, true, true, true, true, true, true, true, true] rfl rfl (any_of HT_.out (by kernel_rfl)) (fun _ _ _ h => h) (Or.inl ⟨by rfl, ?_⟩) ?_ ?_
 rotate_left
 ·intro w'
  go_simp
  with_reducible rfl
 rotate_left
 ·simp only [Act.put, List.setIfInBounds_toArray, List.set_cons_zero, List.set_cons_succ, i64_w, i32_w]
  rfl
 refine done_ (done_of HT_.out (by kernel_rfl)) ?_
 clear hM1 hM
 have q1 : decide (M ≥ e) = true := decide_eq_true he
 have q2 : decide (e ≤ M) = true := decide_eq_true he
 clear he
 have hq : ∀ W : World, (binOp .neq 32 (.slice (some ⟨gb, 0, none⟩) best.length cb) (.slice none 0 0)).run Try.prog W = .ok (.bool true) W := fun W => run_neq_slice_nil_any W 32 3 (some ⟨gb, 0, none⟩) best.length cb 0 0 Try.underlying32
 have hc_ := CP.out
 unfold pC at hc_
 have p0 := blk_cell hc_ 0
 have p1 := blk_cell hc_ 1
 have p2 := blk_cell hc_ 2
 have p3 := blk_cell hc_ 3
 have p4 := blk_cell hc_ 4
 have p5 := blk_cell hc_ 5
 have p6 := blk_cell hc_ 6
 have p7 := blk_cell hc_ 7
 simp only [List.getElem?_toArray, List.getElem?_cons_zero, List.getElem?_cons_succ] at p0 p1 p2 p3 p4 p5 p6 p7
 clear hc_
 have zp := blk_lt CP.out
 go_wp2
 (try simp only [Exit.inBlock, Exit.then])
 first | (refine bodyPost_ret (results_none rfl _ _ _) rfl ?_) | (refine bodyPost_end (results_none rfl _ _ _) rfl ?_)
 exact ⟨by first | rfl | (simp; done), FR.out, _, CP.out, TM.out, HTL.out, BW.out⟩
theorem clone50n (ad : Addr) (c0 n : Nat) (l0 : List Int) (w : World) (hn : l0.length = n) (hr0 : Kd.C (Kd.int .i64) w (some ad) l0.length l0) (hl : n < 1000) :
  Calls Try.prog 50 #[.slice (some ad) n c0] w fun e w' => ∃ v0_ : Value, e = .returned (v0_) ∧ Kd.N (Kd.int .i64) 3 w' w.heap.size (fun _ => True) v0_ l0 ∧ Below w.heap.size w w' := by
 subst hn
 exact clone50 ad c0 l0 w hr0 hl
set_option maxHeartbeats 4000000 in
set_option maxRecDepth 100000 in
theorem try_zero_nil (w0 : World) (l : List S43) (As : Addr) (cs P gt ct : Nat) (hl : Kd.C k43 w0 (some As) l.length l) (hlc : l.length ≤ 100) (h0 : 0 < l.length) (hP : w0.heap.size ≤ P) (hgt : w0.heap.size ≤ gt) (nPt : P ≠ gt) (hkt : l.length ≤ ct) (hks : l.length ≤ cs) (i : Nat) (ii : Int) (en team : List Int) (vb : Value) (e : Int) (best : List Int) (w : World) (hii : ii = (i : Int)) (hen : en.length = 4) (hin : ∀ j : Nat, j < 4 → In64 (rd en j)) (htl : team.length = l.length) (hB0 : Below w0.heap.size w0 w) (hcP : w.heap[P]? = some (pC l As cs gt ct en vb e)) (hcT : w.heap[gt]? = some (.cells (team.map (Value.int .i64)).toArray 3 (0, 0))) (hbv : BT w0.heap.size P gt w vb best) (hn0 : i = l.length) (hb : best = []) :
  Calls Try.prog 36 #[.pointer (some ⟨P, 0, none⟩), .int .i64 ii, .int .i64 2] w fun e_ w' => e_ = .returned (.tuple #[]) ∧ Frm (fun k => k = P ∨ k = gt) w w' ∧ ∃ vb' : Value, w'.heap[P]? = some (pC l As cs gt ct en vb' (tryV l 0 i en (team, best, e)).2.2) ∧ w'.heap[gt]? = some (.cells ((tryV l 0 i en (team, best, e)).1.map (Value.int .i64)).toArray 3 (0, 0)) ∧ (tryV l 0 i en (team, best, e)).1.length = l.length ∧ BT w0.heap.size P gt w' vb' (tryV l 0 i en (team, best, e)).2.1 := by
 have hS : tryV l 0 i en (team, best, e) = (team, team, lastV en) := by rw [tryV, if_neg (by first | exact (fun h => by cases h.1) | (subst hb; exact (fun h => by cases h.1)))]
 rw [hS]
 clear hS
 subst hb
 obtain rfl := hbv.1 rfl
 subst hn0
 subst hii
 have HL := Aside0.mk hl
 have HEN := Aside0.mk hen
 have HIN := Aside0.mk hin
 have HTL := Aside0.mk htl
 have HB0 := Aside0.mk hB0
 have HCP := Aside0.mk hcP
 have HCT := Aside0.mk hcT
 have HBV := Aside0.mk hbv
 have hu43 := Try.underlying43
 have hu62 := Try.underlying62
 have hu60 := Try.underlying60
 clear hl hen hin htl hB0 hcP hcT hbv
 have FR := Aside0.mk (Frm.refl (fun k => k = P ∨ k = gt) w)
 have CP := Aside0.mk HCP.out
 have TM := Aside0.mk HCT.out
 have BW := Aside0.mk HBV.out
 have HBr := Aside0.mk HB0.out
 obtain ⟨M1, hM1⟩ : ∃ M1 : Int, (if rd en 1 < rd en 2 then rd en 2 else rd en 1) = M1 := ⟨_, rfl⟩
 obtain ⟨M, hM⟩ : ∃ M : Int, (if M1 < rd en 3 then rd en 3 else M1) = M := ⟨_, rfl⟩
 have HM := Aside0.mk (show lastV en = M from by unfold lastV mx; rw [hM1, hM])
 go_enter Try.func36, Try.ntmps36
 go_wp2_with fail
 have hb := below_drew (Below.refl w.heap.size w)
 have nFR_ := Aside0.mk (FR.out.trans (Frm.of_below hb))
 have nCP_ := Aside0.mk (blk_below CP.out hb)
 have nTM_ := Aside0.mk (blk_below TM.out hb)
 have nBW_ := Aside0.mk (BT_below BW.out hb)
 have nHBr_ := Aside0.mk (below_step HBr.out hb)
 clear hb
 clear FR CP TM BW HBr
 have FR := nFR_
 have CP := nCP_
 have TM := nTM_
 have BW := nBW_
 have HBr := nHBr_
 clear nFR_ nCP_ nTM_ nBW_ nHBr_
 refine start_ (n := 17) (S := fun w' => w'.cell? ⟨P, 3, none⟩ = some (.int .i64 (rd en 1)) ∧ w'.cell? ⟨P, 4, none⟩ = some (.int .i64 (rd en 2)) ∧ w'.cell? ⟨P, 5, none⟩ = some (.int .i64 (rd en 3))) (ds := []) #[false, false, false, false, false, false, false, false, false, false, false, false, false, false, false, false, false] (by kernel_rfl) rfl rfl ⟨((blk_cell CP.out 3).trans rfl), ((blk_cell CP.out 4).trans rfl), ((blk_cell CP.out 5).trans rfl)⟩ (fun hHeld => ?_)
 refine with_tabW X36.tab0 X36.bits0 (fun HT_ HW_ => ?_)
 generalize w.drew = wd at FR CP TM BW HBr hHeld ⊢
 refine pure_ (i := 0) (N := some 8) (v := ?_) (a' := ?_) #[true, false, false, false, false, false, false, false, false, false, false, false, false, false, false, false, false] rfl rfl (any_of HT_.out (by kernel_rfl)) (fun _ _ _ h => h) (Or.inl ⟨by rfl, ?_⟩) ?_ ?_
 rotate_left
 ·intro w'
  go_simp
  with_reducible rfl
 rotate_left
 ·simp only [Act.put, List.setIfInBounds_toArray, List.set_cons_zero, List.set_cons_succ, i64_w, i32_w]
  rfl
 refine pure_ (i := 1) (N := some 9) (v := ?_) (a' := ?_) #[true, true, false, false, false, false, false, false, false, false, false, false, false, false, false, false, false] rfl rfl (any_of HT_.out (by kernel_rfl)) (fun _ _ _ h => h) (Or.inl ⟨by rfl, ?_⟩) ?_ ?_
 rotate_left
 ·intro w'
  go_simp
  with_reducible rfl
 rotate_left
 ·simp only [Act.put, List.setIfInBounds_toArray, List.set_cons_zero, List.set_cons_succ, i64_w, i32_w]
  rfl
 refine pure_ (i := 2) (N := some 10) (v := ?_) (a' := ?_) #[true, true, true, false, false, false, false, false, false, false, false, false, false, false, false, false, false] rfl rfl (any_of HT_.out (by kernel_rfl)) (fun _ _ _ h => h) (Or.inl ⟨by rfl, ?_⟩) ?_ ?_
 rotate_left
 ·intro w'
  go_simp
  with_reducible rfl
 rotate_left
 ·simp only [Act.put, List.setIfInBounds_toArray, List.set_cons_zero, List.set_cons_succ, i64_w, i32_w]
  rfl
 refine pure_ (i := 3) (N := some 11) (v := ?_) (a' := ?_) #[true, true, true, true, false, false, false, false, false, false, false, false, false, false, false, false, false] rfl rfl (any_of HT_.out (by kernel_rfl)) (fun _ _ _ h => h) (Or.inl ⟨by rfl, ?_⟩) ?_ ?_
 rotate_left
 ·intro w'
  go_simp
  with_reducible rfl
 rotate_left
 ·simp only [Act.put, List.setIfInBounds_toArray, List.set_cons_zero, List.set_cons_succ, i64_w, i32_w]
  rfl
 refine pure_ (i := 5) (N := some 13) (v := ?_) (a' := ?_) #[true, true, true, true, false, true, false, false, false, false, false, false, false, false, false, false, false] rfl rfl (any_of HT_.out (by kernel_rfl)) (fun _ _ _ h => h) (Or.inl ⟨by rfl, ?_⟩) ?_ ?_
 rotate_left
 ·intro w'
  go_simp
  with_reducible rfl
 rotate_left
 ·simp only [Act.put, List.setIfInBounds_toArray, List.set_cons_zero, List.set_cons_succ, i64_w, i32_w]
  rfl
 refine pure_ (i := 6) (N := some 14) (v := ?_) (a' := ?_) #[true, true, true, true, false, true, true, false, false, false, false, false, false, false, false, false, false] rfl rfl (any_of HT_.out (by kernel_rfl)) (fun _ _ _ h => h) (Or.inl ⟨by rfl, ?_⟩) ?_ ?_
 rotate_left
 ·intro w'
  go_simp
  with_reducible rfl
 rotate_left
 ·simp only [Act.put, List.setIfInBounds_toArray, List.set_cons_zero, List.set_cons_succ, i64_w, i32_w]
  rfl
 refine pure_ (i := 7) (N := some 15) (v := ?_) (a' := ?_) #[true, true, true, true, false, true, true, true, false, false, false, false, false, false, false, false, false] rfl rfl (any_of HT_.out (by kernel_rfl)) (fun _ _ _ h => h) (Or.inl ⟨by rfl, ?_⟩) ?_ ?_
 rotate_left
 ·intro w'
  go_simp
  with_reducible rfl
 rotate_left
 ·simp only [Act.put, List.setIfInBounds_toArray, List.set_cons_zero, List.set_cons_succ, i64_w, i32_w]
  rfl
 refine pure_ (i := 8) (N := some 16) (v := ?_) (a' := ?_) #[true, true, true, true, false, true, true, true, true, false, false, false, false, false, false, false, false] rfl rfl (any_of HT_.out (by kernel_rfl)) (fun _ _ _ h => h) (Or.inl ⟨by rfl, ?_⟩) ?_ ?_
 rotate_left
 ·intro w'
  go_simp
  with_reducible rfl
 rotate_left
 ·simp only [Act.put, List.setIfInBounds_toArray, List.set_cons_zero, List.set_cons_succ, i64_w, i32_w]
  rfl
 refine pure_ (i := 10) (N := some 18) (v := ?_) (a' := ?_) #[true, true, true, true, false, true, true, true, true, false, true, false, false, false, false, false, false] rfl rfl (any_of HT_.out (by kernel_rfl)) (fun _ _ _ h => h) (Or.inl ⟨by rfl, ?_⟩) ?_ ?_
 rotate_left
 ·intro w'
  go_simp
  with_reducible rfl
 rotate_left
 ·simp only [Act.put, List.setIfInBounds_toArray, List.set_cons_zero, List.set_cons_succ, i64_w, i32_w]
  rfl
 refine pure_ (i := 11) (N := some 19) (v := ?_) (a' := ?_) #[true, true, true, true, false, true, true, true, true, false, true, true, false, false, false, false, false] rfl rfl (any_of HT_.out (by kernel_rfl)) (fun _ _ _ h => h) (Or.inl ⟨by rfl, ?_⟩) ?_ ?_
 rotate_left
 ·intro w'
  go_simp
  with_reducible rfl
 rotate_left
 ·simp only [Act.put, List.setIfInBounds_toArray, List.set_cons_zero, List.set_cons_succ, i64_w, i32_w]
  rfl
 refine pure_ (i := 12) (N := some 20) (v := ?_) (a' := ?_) #[true, true, true, true, false, true, true, true, true, false, true, true, true, false, false, false, false] rfl rfl (any_of HT_.out (by kernel_rfl)) (fun _ _ _ h => h) (Or.inl ⟨by rfl, ?_⟩) ?_ ?_
 rotate_left
 ·intro w'
  go_simp
  with_reducible rfl
 rotate_left
 ·simp only [Act.put, List.setIfInBounds_toArray, List.set_cons_zero, List.set_cons_succ, i64_w, i32_w]
  rfl
 refine pure_ (i := 13) (N := some 21) (v := ?_) (a' := ?_) #[true, true, true, true, false, true, true, true, true, false, true, true, true, true, false, false, false] rfl rfl (any_of HT_.out (by kernel_rfl)) (fun _ _ _ h => h) (Or.inl ⟨by rfl, ?_⟩) ?_ ?_
 rotate_left
 ·intro w'
  go_simp
  with_reducible rfl
 rotate_left
 ·simp only [Act.put, List.setIfInBounds_toArray, List.set_cons_zero, List.set_cons_succ, i64_w, i32_w]
  rfl
 refine take_ (i := 4) (N := some 12) (v := ?_) (a' := ?_) #[true, true, true, true, true, true, true, true, true, false, true, true, true, true, false, false, false] rfl rfl (take_ofW HT_.out HW_.out (by kernel_rfl)) (fun _ _ _ h => h) (Or.inl ⟨by rfl, ?_⟩) hHeld ?_ ?_
 rotate_left
 ·rintro w' ⟨s0, s1, s2⟩
  go_simp
  with_reducible rfl
 rotate_left
 ·simp only [Act.put, List.setIfInBounds_toArray, List.set_cons_zero, List.set_cons_succ, i64_w, i32_w]
  rfl
 refine take_ (i := 9) (N := some 17) (v := ?_) (a' := ?_) #[true, true, true, true, true, true, true, true, true, true, true, true, true, true, false, false, false] rfl rfl (take_ofW HT_.out HW_.out (by kernel_rfl)) (fun _ _ _ h => h) (Or.inl ⟨by rfl, ?_⟩) hHeld ?_ ?_
 rotate_left
 ·rintro w' ⟨s0, s1, s2⟩
  go_simp
  with_reducible rfl
 rotate_left
 ·simp only [Act.put, List.setIfInBounds_toArray, List.set_cons_zero, List.set_cons_succ, i64_w, i32_w]
  rfl
 refine take_ (i := 14) (N := some 22) (v := ?_) (a' := ?_) #[true, true, true, true, true, true, true, true, true, true, true, true, true, true, true, false, false] rfl rfl (take_ofW HT_.out HW_.out (by kernel_rfl)) (fun _ _ _ h => h) (Or.inl ⟨by rfl, ?_⟩) hHeld ?_ ?_
 rotate_left
 ·rintro w' ⟨s0, s1, s2⟩
  go_simp
  with_reducible rfl
 rotate_left
 ·simp only [Act.put, List.setIfInBounds_toArray, List.set_cons_zero, List.set_cons_succ, i64_w, i32_w]
  rfl
 refine pure_ (i := 15) (N := some 23) (v := ?_) (a' := ?_) #[true, true, true, true, true, true, true, true, true, true, true, true, true, true, true, true, false] rfl rfl (any_of HT_.out (by kernel_rfl)) (fun _ _ _ h => h) (Or.inl ⟨by rfl, ?_⟩) ?_ ?_
 rotate_left
 ·intro w'
  go_simp
  with_reducible rfl
 rotate_left
 ·simp only [Act.put, List.setIfInBounds_toArray, List.set_cons_zero, List.set_cons_succ, i64_w, i32_w]
  rfl
 refine pure_ (i := 16) (N := some 6) (v := ?_) (a' := ?_) #[true, true, true, true, true, true, true, true, true, true, true, true, true, true, true, true, true] rfl rfl (any_of HT_.out (by kernel_rfl)) (fun _ _ _ h => h) (Or.inl ⟨by rfl, ?_⟩) ?_ ?_
 rotate_left
 ·intro w'
  go_simp
  with_reducible rfl
 rotate_left
 ·simp only [Act.put, List.setIfInBounds_toArray, List.set_cons_zero, List.set_cons_succ, i64_w, i32_w]
  rfl
 refine done_ (done_of HT_.out (by kernel_rfl)) ?_
 clear hM1 hM
 have hq : ∀ W : World, (binOp .neq 32 (.slice none 0 0) (.slice none 0 0)).run Try.prog W = .ok (.bool false) W := fun W => run_neq_slice_nil_any W 32 3 none 0 0 0 0 Try.underlying32
 have hc_ := CP.out
 unfold pC at hc_
 have p0 := blk_cell hc_ 0
 have p1 := blk_cell hc_ 1
 have p2 := blk_cell hc_ 2
 have p3 := blk_cell hc_ 3
 have p4 := blk_cell hc_ 4
 have p5 := blk_cell hc_ 5
 have p6 := blk_cell hc_ 6
 have p7 := blk_cell hc_ 7
 simp only [List.getElem?_toArray, List.getElem?_cons_zero, List.getElem?_cons_succ] at p0 p1 p2 p3 p4 p5 p6 p7
 clear hc_
 have zp := blk_lt CP.out
 go_wp2_with fail
 refine (clone50n ⟨gt, 0, none⟩ ct l.length team _ HTL.out (C_ints team TM.out (by have := HTL.out; omega)) (by omega)).mono ?_
 rintro e_ w1 ⟨v0, rfl, hN, hb⟩
 have hne : 0 < team.length := by have := HTL.out; omega
 obtain ⟨gn, cn, rfl, hge, hlt, _⟩ := Kd.N_form hN hne
 have HN := Aside0.mk hN
 have HB1 := Aside0.mk hb
 have HNE := Aside0.mk hne
 have HWD := Aside0.mk (HBr.out.size)
 clear p0 p1 p2 p3 p4 p5 p6 p7 zp
 have HGE := Aside0.mk hge
 clear hN hge hlt hne
 have zP0 := blk_lt CP.out
 have zT0 := blk_lt TM.out
 have HZ := Aside0.mk (And.intro zP0 zT0)
 clear zP0 zT0
 clear hb
 have hb := HB1.out
 have nFR_ := Aside0.mk (FR.out.trans (Frm.of_below hb))
 have nCP_ := Aside0.mk (blk_below CP.out hb)
 have nTM_ := Aside0.mk (blk_below TM.out hb)
 have nBW_ := Aside0.mk (BT_below BW.out hb)
 have nHBr_ := Aside0.mk (below_step HBr.out hb)
 clear hb
 clear FR CP TM BW HBr
 have FR := nFR_
 have CP := nCP_
 have TM := nTM_
 have BW := nBW_
 have HBr := nHBr_
 clear nFR_ nCP_ nTM_ nBW_ nHBr_
 have hc1 := CP.out
 unfold pC at hc1
 have p0 := blk_cell hc1 0
 have p1 := blk_cell hc1 1
 have p2 := blk_cell hc1 2
 have p3 := blk_cell hc1 3
 have p4 := blk_cell hc1 4
 have p5 := blk_cell hc1 5
 have p6 := blk_cell hc1 6
 have p7 := blk_cell hc1 7
 simp only [List.getElem?_toArray, List.getElem?_cons_zero, List.getElem?_cons_succ] at p0 p1 p2 p3 p4 p5 p6 p7
 have fz6 := blk_frozen hc1 6
 have fz7 := blk_frozen hc1 7
 clear hc1
 have zP1 := blk_lt CP.out
 go_wp2
 (try simp only [Exit.inBlock, Exit.then])
 first | (refine bodyPost_ret (results_none rfl _ _ _) rfl ?_) | (refine bodyPost_end (results_none rfl _ _ _) rfl ?_)
 have hN2 := Nint_mono (ok' := fun k => k ≠ P ∧ k ≠ gt) (Kd.N_lower HN.out HWD.out) (fun k hk => by have := Kd.N_base HN.out k hk; have := HZ.out; omega)
 exact ⟨by first | rfl | (simp; done), Frm.set (S := fun k => k = P ∨ k = gt) (g := P) (Frm.set (S := fun k => k = P ∨ k = gt) (g := P) FR.out (Or.inl rfl) 6 _) (Or.inl rfl) 7 _, _, blk_put (blk_put CP.out 6 _ rfl) 7 _ (by rw [HM.out]; first | rfl | (simp [pC]; done)), (Below.heap_setCell _ ⟨P, 7, none⟩ _ gt nPt.symm).trans ((Below.heap_setCell _ ⟨P, 6, none⟩ _ gt nPt.symm).trans TM.out), HTL.out, fun h => by rw [h] at HNE; exact absurd HNE.out (by simp), Kd.N_far (Kd.N_far hN2 (fun k hk => hk.1) _) (fun k hk => hk.1) _⟩
set_option maxHeartbeats 4000000 in
set_option maxRecDepth 100000 in
theorem try_zero_lt (w0 : World) (l : List S43) (As : Addr) (cs P gt ct : Nat) (hl : Kd.C k43 w0 (some As) l.length l) (hlc : l.length ≤ 100) (h0 : 0 < l.length) (hP : w0.heap.size ≤ P) (hgt : w0.heap.size ≤ gt) (nPt : P ≠ gt) (hkt : l.length ≤ ct) (hks : l.length ≤ cs) (i : Nat) (ii : Int) (en team : List Int) (vb : Value) (e : Int) (best : List Int) (w : World) (hii : ii = (i : Int)) (hen : en.length = 4) (hin : ∀ j : Nat, j < 4 → In64 (rd en j)) (htl : team.length = l.length) (hB0 : Below w0.heap.size w0 w) (hcP : w.heap[P]? = some (pC l As cs gt ct en vb e)) (hcT : w.heap[gt]? = some (.cells (team.map (Value.int .i64)).toArray 3 (0, 0))) (hbv : BT w0.heap.size P gt w vb best) (hn0 : i = l.length) (hb : best.isEmpty = false) (he : ¬ e ≤ lastV en) :
  Calls Try.prog 36 #[.pointer (some ⟨P, 0, none⟩), .int .i64 ii, .int .i64 2] w fun e_ w' => e_ = .returned (.tuple #[]) ∧ Frm (fun k => k = P ∨ k = gt) w w' ∧ ∃ vb' : Value, w'.heap[P]? = some (pC l As cs gt ct en vb' (tryV l 0 i en (team, best, e)).2.2) ∧ w'.heap[gt]? = some (.cells ((tryV l 0 i en (team, best, e)).1.map (Value.int .i64)).toArray 3 (0, 0)) ∧ (tryV l 0 i en (team, best, e)).1.length = l.length ∧ BT w0.heap.size P gt w' vb' (tryV l 0 i en (team, best, e)).2.1 := by
 have hS : tryV l 0 i en (team, best, e) = (team, team, lastV en) := by rw [tryV, if_neg (by first | exact (fun h => he h.2) | (subst hb; exact (fun h => he h.2)))]
 rw [hS]
 clear hS
 have hpos : 0 < best.length := by cases best with | nil => cases hb | cons _ _ => simp
 obtain ⟨gb, cb, rfl, _⟩ := Kd.N_form hbv.2 hpos
 clear hpos
 clear hb
 subst hn0
 subst hii
 have HL := Aside0.mk hl
 have HEN := Aside0.mk hen
 have HIN := Aside0.mk hin
 have HTL := Aside0.mk htl
 have HB0 := Aside0.mk hB0
 have HCP := Aside0.mk hcP
 have HCT := Aside0.mk hcT
 have HBV := Aside0.mk hbv
 have hu43 := Try.underlying43
 have hu62 := Try.underlying62
 have hu60 := Try.underlying60
 clear hl hen hin htl hB0 hcP hcT hbv
 have FR := Aside0.mk (Frm.refl (fun k => k = P ∨ k = gt) w)
 have CP := Aside0.mk HCP.out
 have TM := Aside0.mk HCT.out
 have BW := Aside0.mk HBV.out
 have HBr := Aside0.mk HB0.out
 obtain ⟨M1, hM1⟩ : ∃ M1 : Int, (if rd en 1 < rd en 2 then rd en 2 else rd en 1) = M1 := ⟨_, rfl⟩
 obtain ⟨M, hM⟩ : ∃ M : Int, (if M1 < rd en 3 then rd en 3 else M1) = M := ⟨_, rfl⟩
 have HM := Aside0.mk (show lastV en = M from by unfold lastV mx; rw [hM1, hM])
 go_enter Try.func36, Try.ntmps36
 go_wp2_with fail
 have hb := below_drew (Below.refl w.heap.size w)
 have nFR_ := Aside0.mk (FR.out.trans (Frm.of_below hb))
 have nCP_ := Aside0.mk (blk_below CP.out hb)
 have nTM_ := Aside0.mk (blk_below TM.out hb)
 have nBW_ := Aside0.mk (BT_below BW.out hb)
 have nHBr_ := Aside0.mk (below_step HBr.out hb)
 clear hb
 clear FR CP TM BW HBr
 have FR := nFR_
 have CP := nCP_
 have TM := nTM_
 have BW := nBW_
 have HBr := nHBr_
 clear nFR_ nCP_ nTM_ nBW_ nHBr_
 refine start_ (n := 17) (S := fun w' => w'.cell? ⟨P, 3, none⟩ = some (.int .i64 (rd en 1)) ∧ w'.cell? ⟨P, 4, none⟩ = some (.int .i64 (rd en 2)) ∧ w'.cell? ⟨P, 5, none⟩ = some (.int .i64 (rd en 3))) (ds := []) #[false, false, false, false, false, false, false, false, false, false, false, false, false, false, false, false, false] (by kernel_rfl) rfl rfl ⟨((blk_cell CP.out 3).trans rfl), ((blk_cell CP.out 4).trans rfl), ((blk_cell CP.out 5).trans rfl)⟩ (fun hHeld => ?_)
 refine with_tabW X36.tab0 X36.bits0 (fun HT_ HW_ => ?_)
 generalize w.drew = wd at FR CP TM BW HBr hHeld ⊢
 refine pure_ (i := 0) (N := some 8) (v := ?_) (a' := ?_) #[true, false, false, false, false, false, false, false, false, false, false, false, false, false, false, false, false] rfl rfl (any_of HT_.out (by kernel_rfl)) (fun _ _ _ h => h) (Or.inl ⟨by rfl, ?_⟩) ?_ ?_
 rotate_left
 ·intro w'
  go_simp
  with_reducible rfl
 rotate_left
 ·simp only [Act.put, List.setIfInBounds_toArray, List.set_cons_zero, List.set_cons_succ, i64_w, i32_w]
  rfl
 refine pure_ (i := 1) (N := some 9) (v := ?_) (a' := ?_) #[true, true, false, false, false, false, false, false, false, false, false, false, false, false, false, false, false] rfl rfl (any_of HT_.out (by kernel_rfl)) (fun _ _ _ h => h) (Or.inl ⟨by rfl, ?_⟩) ?_ ?_
 rotate_left
 ·intro w'
  go_simp
  with_reducible rfl
 rotate_left
 ·simp only [Act.put, List.setIfInBounds_toArray, List.set_cons_zero, List.set_cons_succ, i64_w, i32_w]
  rfl
 refine pure_ (i := 2) (N := some 10) (v := ?_) (a' := ?_) #[true, true, true, false, false, false, false, false, false, false, false, false, false, false, false, false, false] rfl rfl (any_of HT_.out (by kernel_rfl)) (fun _ _ _ h => h) (Or.inl ⟨by rfl, ?_⟩) ?_ ?_
 rotate_left
 ·intro w'
  go_simp
  with_reducible rfl
 rotate_left
 ·simp only [Act.put, List.setIfInBounds_toArray, List.set_cons_zero, List.set_cons_succ, i64_w, i32_w]
  rfl
 refine pure_ (i := 3) (N := some 11) (v := ?_) (a' := ?_) #[true, true, true, true, false, false, false, false, false, false, false, false, false, false, false, false, false] rfl rfl (any_of HT_.out (by kernel_rfl)) (fun _ _ _ h => h) (Or.inl ⟨by rfl, ?_⟩) ?_ ?_
 rotate_left
 ·intro w'
  go_simp
  with_reducible rfl
 rotate_left
 ·simp only [Act.put, List.setIfInBounds_toArray, List.set_cons_zero, List.set_cons_succ, i64_w, i32_w]
  rfl
 refine pure_ (i := 5) (N := some 13) (v := ?_) (a' := ?_) #[true, true, true, true, false, true, false, false, false, false, false, false, false, false, false, false, false] rfl rfl (any_of HT_.out (by kernel_rfl)) (fun _ _ _ h => h) (Or.inl ⟨by rfl, ?_⟩) ?_ ?_
 rotate_left
 ·intro w'
  go_simp
  with_reducible rfl
 rotate_left
 ·simp only [Act.put, List.setIfInBounds_toArray, List.set_cons_zero, List.set_cons_succ, i64_w, i32_w]
  rfl
 refine pure_ (i := 6) (N := some 14) (v := ?_) (a' := ?_) #[true, true, true, true, false, true, true, false, false, false, false, false, false, false, false, false, false] rfl rfl (any_of HT_.out (by kernel_rfl)) (fun _ _ _ h => h) (Or.inl ⟨by rfl, ?_⟩) ?_ ?_
 rotate_left
 ·intro w'
  go_simp
  with_reducible rfl
 rotate_left
 ·simp only [Act.put, List.setIfInBounds_toArray, List.set_cons_zero, List.set_cons_succ, i64_w, i32_w]
  rfl
 refine pure_ (i := 7) (N := some 15) (v := ?_) (a' := ?_) #[true, true, true, true, false, true, true, true, false, false, false, false, false, false, false, false, false] rfl rfl (any_of HT_.out (by kernel_rfl)) (fun _ _ _ h => h) (Or.inl ⟨by rfl, ?_⟩) ?_ ?_
 rotate_left
 ·intro w'
  go_simp
  with_reducible rfl
 rotate_left
 ·simp only [Act.put, List.setIfInBounds_toArray, List.set_cons_zero, List.set_cons_succ, i64_w, i32_w]
  rfl
 refine pure_ (i := 8) (N := some 16) (v := ?_) (a' := ?_) #[true, true, true, true, false, true, true, true, true, false, false, false, false, false, false, false, false] rfl rfl (any_of HT_.out (by kernel_rfl)) (fun _ _ _ h => h) (Or.inl ⟨by rfl, ?_⟩) ?_ ?_
 rotate_left
 ·intro w'
  go_simp
  with_reducible rfl
 rotate_left
 ·simp only [Act.put, List.setIfInBounds_toArray, List.set_cons_zero, List.set_cons_succ, i64_w, i32_w]
  rfl
 refine pure_ (i := 10) (N := some 18) (v := ?_) (a' := ?_) #[true, true, true, true, false, true, true, true, true, false, true, false, false, false, false, false, false] rfl rfl (any_of HT_.out (by kernel_rfl)) (fun _ _ _ h => h) (Or.inl ⟨by rfl, ?_⟩) ?_ ?_
 rotate_left
 ·intro w'
  go_simp
  with_reducible rfl
 rotate_left
 ·simp only [Act.put, List.setIfInBounds_toArray, List.set_cons_zero, List.set_cons_succ, i64_w, i32_w]
  rfl
 refine pure_ (i := 11) (N := some 19) (v := ?_) (a' := ?_) #[true, true, true, true, false, true, true, true, true, false, true, true, false, false, false, false, false] rfl rfl (any_of HT_.out (by kernel_rfl)) (fun _ _ _ h => h) (Or.inl ⟨by rfl, ?_⟩) ?_ ?_
 rotate_left
 ·intro w'
  go_simp
  with_reducible rfl
 rotate_left
 ·simp only [Act.put, List.setIfInBounds_toArray, List.set_cons_zero, List.set_cons_succ, i64_w, i32_w]
  rfl
 refine pure_ (i := 12) (N := some 20) (v := ?_) (a' := ?_) #[true, true, true, true, false, true, true, true, true, false, true, true, true, false, false, false, false] rfl rfl (any_of HT_.out (by kernel_rfl)) (fun _ _ _ h => h) (Or.inl ⟨by rfl, ?_⟩) ?_ ?_
 rotate_left
 ·intro w'
  go_simp
  with_reducible rfl
 rotate_left
 ·simp only [Act.put, List.setIfInBounds_toArray, List.set_cons_zero, List.set_cons_succ, i64_w, i32_w]
  rfl
 refine pure_ (i := 13) (N := some 21) (v := ?_) (a' := ?_) #[true, true, true, true, false, true, true, true, true, false, true, true, true, true, false, false, false] rfl rfl (any_of HT_.out (by kernel_rfl)) (fun _ _ _ h => h) (Or.inl ⟨by rfl, ?_⟩) ?_ ?_
 rotate_left
 ·intro w'
  go_simp
  with_reducible rfl
 rotate_left
 ·simp only [Act.put, List.setIfInBounds_toArray, List.set_cons_zero, List.set_cons_succ, i64_w, i32_w]
  rfl
 refine take_ (i := 4) (N := some 12) (v := ?_) (a' := ?_) #[true, true, true, true, true, true, true, true, true, false, true, true, true, true, false, false, false] rfl rfl (take_ofW HT_.out HW_.out (by kernel_rfl)) (fun _ _ _ h => h) (Or.inl ⟨by rfl, ?_⟩) hHeld ?_ ?_
 rotate_left
 ·rintro w' ⟨s0, s1, s2⟩
  go_simp
  with_reducible rfl
 rotate_left
 ·simp only [Act.put, List.setIfInBounds_toArray, List.set_cons_zero, List.set_cons_succ, i64_w, i32_w]
  rfl
 refine take_ (i := 9) (N := some 17) (v := ?_) (a' := ?_) #[true, true, true, true, true, true, true, true, true, true, true, true, true, true, false, false, false] rfl rfl (take_ofW HT_.out HW_.out (by kernel_rfl)) (fun _ _ _ h => h) (Or.inl ⟨by rfl, ?_⟩) hHeld ?_ ?_
 rotate_left
 ·rintro w' ⟨s0, s1, s2⟩
  go_simp
  with_reducible rfl
 rotate_left
 ·simp only [Act.put, List.setIfInBounds_toArray, List.set_cons_zero, List.set_cons_succ, i64_w, i32_w]
  rfl
 refine take_ (i := 14) (N := some 22) (v := ?_) (a' := ?_) #[true, true, true, true, true, true, true, true, true, true, true, true, true, true, true, false, false] rfl rfl (take_ofW HT_.out HW_.out (by kernel_rfl)) (fun _ _ _ h => h) (Or.inl ⟨by rfl, ?_⟩) hHeld ?_ ?_
 rotate_left
 ·rintro w' ⟨s0, s1, s2⟩
  go_simp
  with_reducible rfl
 rotate_left
 ·simp only [Act.put, List.setIfInBounds_toArray, List.set_cons_zero, List.set_cons_succ, i64_w, i32_w]
  rfl
 refine pure_ (i := 15) (N := some 23) (v := ?_) (a' := ?_) #[true, true, true, true, true, true, true, true, true, true, true, true, true, true, true, true, false] rfl rfl (any_of HT_.out (by kernel_rfl)) (fun _ _ _ h => h) (Or.inl ⟨by rfl, ?_⟩) ?_ ?_
 rotate_left
 ·intro w'
  go_simp
  with_reducible rfl
 rotate_left
 ·simp only [Act.put, List.setIfInBounds_toArray, List.set_cons_zero, List.set_cons_succ, i64_w, i32_w]
  rfl
 refine pure_ (i := 16) (N := some 6) (v := ?_) (a' := ?_) #[true, true, true, true, true, true, true, true, true, true, true, true, true, true, true, true, true] rfl rfl (any_of HT_.out (by kernel_rfl)) (fun _ _ _ h => h) (Or.inl ⟨by rfl, ?_⟩) ?_ ?_
 rotate_left
 ·intro w'
  go_simp
  with_reducible rfl
 rotate_left
 ·simp only [Act.put, List.setIfInBounds_toArray, List.set_cons_zero, List.set_cons_succ, i64_w, i32_w]
  rfl
 refine done_ (done_of HT_.out (by kernel_rfl)) ?_
 clear hM1 hM
 rw [HM.out] at he
 have q1 : decide (M ≥ e) = false := decide_eq_false (by omega)
 have q2 : decide (e ≤ M) = false := decide_eq_false (by omega)
 clear he
 have hq : ∀ W : World, (binOp .neq 32 (.slice (some ⟨gb, 0, none⟩) best.length cb) (.slice none 0 0)).run Try.prog W = .ok (.bool true) W := fun W => run_neq_slice_nil_any W 32 3 (some ⟨gb, 0, none⟩) best.length cb 0 0 Try.underlying32
 have hc_ := CP.out
 unfold pC at hc_
 have p0 := blk_cell hc_ 0
 have p1 := blk_cell hc_ 1
 have p2 := blk_cell hc_ 2
 have p3 := blk_cell hc_ 3
 have p4 := blk_cell hc_ 4
 have p5 := blk_cell hc_ 5
 have p6 := blk_cell hc_ 6
 have p7 := blk_cell hc_ 7
 simp only [List.getElem?_toArray, List.getElem?_cons_zero, List.getElem?_cons_succ] at p0 p1 p2 p3 p4 p5 p6 p7
 clear hc_
 have zp := blk_lt CP.out
 go_wp2_with fail
 refine (clone50n ⟨gt, 0, none⟩ ct l.length team _ HTL.out (C_ints team TM.out (by have := HTL.out; omega)) (by omega)).mono ?_
 rintro e_ w1 ⟨v0, rfl, hN, hb⟩
 have hne : 0 < team.length := by have := HTL.out; omega
 obtain ⟨gn, cn, rfl, hge, hlt, _⟩ := Kd.N_form hN hne
 have HN := Aside0.mk hN
 have HB1 := Aside0.mk hb
 have HNE := Aside0.mk hne
 have HWD := Aside0.mk (HBr.out.size)
 clear p0 p1 p2 p3 p4 p5 p6 p7 zp
 have HGE := Aside0.mk hge
 clear hN hge hlt hne
 have zP0 := blk_lt CP.out
 have zT0 := blk_lt TM.out
 have HZ := Aside0.mk (And.intro zP0 zT0)
 clear zP0 zT0
 clear hb
 have hb := HB1.out
 have nFR_ := Aside0.mk (FR.out.trans (Frm.of_below hb))
 have nCP_ := Aside0.mk (blk_below CP.out hb)
 have nTM_ := Aside0.mk (blk_below TM.out hb)
 have nBW_ := Aside0.mk (BT_below BW.out hb)
 have nHBr_ := Aside0.mk (below_step HBr.out hb)
 clear hb
 clear FR CP TM BW HBr
 have FR := nFR_
 have CP := nCP_
 have TM := nTM_
 have BW := nBW_
 have HBr := nHBr_
 clear nFR_ nCP_ nTM_ nBW_ nHBr_
 have hc1 := CP.out
 unfold pC at hc1
 have p0 := blk_cell hc1 0
 have p1 := blk_cell hc1 1
 have p2 := blk_cell hc1 2
 have p3 := blk_cell hc1 3
 have p4 := blk_cell hc1 4
 have p5 := blk_cell hc1 5
 have p6 := blk_cell hc1 6
 have p7 := blk_cell hc1 7
 simp only [List.getElem?_toArray, List.getElem?_cons_zero, List.getElem?_cons_succ] at p0 p1 p2 p3 p4 p5 p6 p7
 have fz6 := blk_frozen hc1 6
 have fz7 := blk_frozen hc1 7
 clear hc1
 have zP1 := blk_lt CP.out
 go_wp2
 (try simp only [Exit.inBlock, Exit.then])
 first | (refine bodyPost_ret (results_none rfl _ _ _) rfl ?_) | (refine bodyPost_end (results_none rfl _ _ _) rfl ?_)
 have hN2 := Nint_mono (ok' := fun k => k ≠ P ∧ k ≠ gt) (Kd.N_lower HN.out HWD.out) (fun k hk => by have := Kd.N_base HN.out k hk; have := HZ.out; omega)
 exact ⟨by first | rfl | (simp; done), Frm.set (S := fun k => k = P ∨ k = gt) (g := P) (Frm.set (S := fun k => k = P ∨ k = gt) (g := P) FR.out (Or.inl rfl) 6 _) (Or.inl rfl) 7 _, _, blk_put (blk_put CP.out 6 _ rfl) 7 _ (by rw [HM.out]; first | rfl | (simp [pC]; done)), (Below.heap_setCell _ ⟨P, 7, none⟩ _ gt nPt.symm).trans ((Below.heap_setCell _ ⟨P, 6, none⟩ _ gt nPt.symm).trans TM.out), HTL.out, fun h => by rw [h] at HNE; exact absurd HNE.out (by simp), Kd.N_far (Kd.N_far hN2 (fun k hk => hk.1) _) (fun k hk => hk.1) _⟩
set_option maxHeartbeats 16000000 in
set_option maxRecDepth 100000 in
theorem try_succ (w0 : World) (l : List S43) (As : Addr) (cs P gt ct : Nat) (hl : Kd.C k43 w0 (some As) l.length l) (hlc : l.length ≤ 100) (h0 : 0 < l.length) (hP : w0.heap.size ≤ P) (hgt : w0.heap.size ≤ gt) (nPt : P ≠ gt) (hkt : l.length ≤ ct) (hks : l.length ≤ cs) (n : Nat) (IH : ∀ (i : Nat) (ii : Int) (en team : List Int) (vb : Value) (e : Int) (best : List Int) (w : World) (hii : ii = (i : Int)) (hen : en.length = 4) (hin : ∀ j : Nat, j < 4 → In64 (rd en j)) (htl : team.length = l.length) (hB0 : Below w0.heap.size w0 w) (hcP : w.heap[P]? = some (pC l As cs gt ct en vb e)) (hcT : w.heap[gt]? = some (.cells (team.map (Value.int .i64)).toArray 3 (0, 0))) (hbv : BT w0.heap.size P gt w vb best), i + n = l.length → Calls Try.prog 36 #[.pointer (some ⟨P, 0, none⟩), .int .i64 ii, .int .i64 2] w fun e_ w' => e_ = .returned (.tuple #[]) ∧ Frm (fun k => k = P ∨ k = gt) w w' ∧ ∃ vb' : Value, w'.heap[P]? = some (pC l As cs gt ct en vb' (tryV l n i en (team, best, e)).2.2) ∧ w'.heap[gt]? = some (.cells ((tryV l n i en (team, best, e)).1.map (Value.int .i64)).toArray 3 (0, 0)) ∧ (tryV l n i en (team, best, e)).1.length = l.length ∧ BT w0.heap.size P gt w' vb' (tryV l n i en (team, best, e)).2.1) (i : Nat) (ii : Int) (en team : List Int) (vb : Value) (e : Int) (best : List Int) (w : World) (hii : ii = (i : Int)) (hen : en.length = 4) (hin : ∀ j : Nat, j < 4 → In64 (rd en j)) (htl : team.length = l.length) (hB0 : Below w0.heap.size w0 w) (hcP : w.heap[P]? = some (pC l As cs gt ct en vb e)) (hcT : w.heap[gt]? = some (.cells (team.map (Value.int .i64)).toArray 3 (0, 0))) (hbv : BT w0.heap.size P gt w vb best) (hn : i + (n + 1) = l.length) (hcut : best = [] ∨ best.isEmpty = false ∧ ¬ e ≤ lastV en) :
  Calls Try.prog 36 #[.pointer (some ⟨P, 0, none⟩), .int .i64 ii, .int .i64 2] w fun e_ w' => e_ = .returned (.tuple #[]) ∧ Frm (fun k => k = P ∨ k = gt) w w' ∧ ∃ vb' : Value, w'.heap[P]? = some (pC l As cs gt ct en vb' (tryV l (n + 1) i en (team, best, e)).2.2) ∧ w'.heap[gt]? = some (.cells ((tryV l (n + 1) i en (team, best, e)).1.map (Value.int .i64)).toArray 3 (0, 0)) ∧ (tryV l (n + 1) i en (team, best, e)).1.length = l.length ∧ BT w0.heap.size P gt w' vb' (tryV l (n + 1) i en (team, best, e)).2.1 := by
 have hS : tryV l (n + 1) i en (team, best, e) = upT (tStep l (tryV l n (i + 1)) i en) 2 (team, best, e) := by rw [tryV, if_neg (fun h => hcut.elim (fun h2 => by rw [h2] at h; cases h.1) (fun h2 => h2.2 h.2))]
 rw [hS]
 clear hS
 have HIH := Aside0.mk IH
 clear IH
 subst hii
 obtain ⟨M1, hM1⟩ : ∃ M1 : Int, (if rd en 1 < rd en 2 then rd en 2 else rd en 1) = M1 := ⟨_, rfl⟩
 obtain ⟨M, hM⟩ : ∃ M : Int, (if M1 < rd en 3 then rd en 3 else M1) = M := ⟨_, rfl⟩
 have HM := Aside0.mk (show lastV en = M from by unfold lastV mx; rw [hM1, hM])
 rcases hcut with hb | ⟨hb, he⟩
 obtain rfl := hbv.1 hb
 clear hb
 have hq : ∀ W : World, (binOp .neq 32 (.slice none 0 0) (.slice none 0 0)).run Try.prog W = .ok (.bool false) W := fun W => run_neq_slice_nil_any W 32 3 none 0 0 0 0 Try.underlying32
 rotate_left
 have hpos : 0 < best.length := by cases best with | nil => cases hb | cons _ _ => simp
 obtain ⟨gb, cb, rfl, _⟩ := Kd.N_form hbv.2 hpos
 clear hpos
 rw [HM.out] at he
 have HLT := Aside0.mk he
 clear hb he
 have hq : ∀ W : World, (binOp .neq 32 (.slice (some ⟨gb, 0, none⟩) best.length cb) (.slice none 0 0)).run Try.prog W = .ok (.bool true) W := fun W => run_neq_slice_nil_any W 32 3 (some ⟨gb, 0, none⟩) best.length cb 0 0 Try.underlying32
 rotate_left
 all_goals (
  have HL := Aside0.mk hl
  have HEN := Aside0.mk hen
  have HIN := Aside0.mk hin
  have HTL := Aside0.mk htl
  have HB0 := Aside0.mk hB0
  have HCP := Aside0.mk hcP
  have HCT := Aside0.mk hcT
  have HBV := Aside0.mk hbv
  have hu43 := Try.underlying43
  have hu62 := Try.underlying62
  have hu60 := Try.underlying60
  clear hl hen hin htl hB0 hcP hcT hbv
  have FR := Aside0.mk (Frm.refl (fun k => k = P ∨ k = gt) w)
  have CP := Aside0.mk HCP.out
  have TM := Aside0.mk HCT.out
  have BW := Aside0.mk HBV.out
  have HBr := Aside0.mk HB0.out
  go_enter Try.func36, Try.ntmps36
  go_wp2_with fail
  have hb := below_drew (Below.refl w.heap.size w)
  have nFR_ := Aside0.mk (FR.out.trans (Frm.of_below hb))
  have nCP_ := Aside0.mk (blk_below CP.out hb)
  have nTM_ := Aside0.mk (blk_below TM.out hb)
  have nBW_ := Aside0.mk (BT_below BW.out hb)
  have nHBr_ := Aside0.mk (below_step HBr.out hb)
  clear hb
  clear FR CP TM BW HBr
  have FR := nFR_
  have CP := nCP_
  have TM := nTM_
  have BW := nBW_
  have HBr := nHBr_
  clear nFR_ nCP_ nTM_ nBW_ nHBr_
  refine start_ (n := 17) (S := fun w' => w'.cell? ⟨P, 3, none⟩ = some (.int .i64 (rd en 1)) ∧ w'.cell? ⟨P, 4, none⟩ = some (.int .i64 (rd en 2)) ∧ w'.cell? ⟨P, 5, none⟩ = some (.int .i64 (rd en 3))) (ds := []) #[false, false, false, false, false, false, false, false, false, false, false, false, false, false, false, false, false] (by kernel_rfl) rfl rfl ⟨((blk_cell CP.out 3).trans rfl), ((blk_cell CP.out 4).trans rfl), ((blk_cell CP.out 5).trans rfl)⟩ (fun hHeld => ?_)
  refine with_tabW X36.tab0 X36.bits0 (fun HT_ HW_ => ?_)
  generalize w.drew = wd at FR CP TM BW HBr hHeld ⊢
  refine pure_ (i := 0) (N := some 8) (v := ?_) (a' := ?_) #[true, false, false, false, false, false, false, false, false, false, false, false, false, false, false, false, false] rfl rfl (any_of HT_.out (by kernel_rfl)) (fun _ _ _ h => h) (Or.inl ⟨by rfl, ?_⟩) ?_ ?_
  rotate_left
  ·intro w'
   go_simp
   with_reducible rfl
  rotate_left
  ·simp only [Act.put, List.setIfInBounds_toArray, List.set_cons_zero, List.set_cons_succ, i64_w, i32_w]
   rfl
  refine pure_ (i := 1) (N := some 9) (v := ?_) (a' := ?_) #[true, true, false, false, false, false, false, false, false, false, false, false, false, false, false, false, false] rfl rfl (any_of HT_.out (by kernel_rfl)) (fun _ _ _ h => h) (Or.inl ⟨by rfl, ?_⟩) ?_ ?_
  rotate_left
  ·intro w'
   go_simp
   with_reducible rfl
  rotate_left
  ·simp only [Act.put, List.setIfInBounds_toArray, List.set_cons_zero, List.set_cons_succ, i64_w, i32_w]
   rfl
  refine pure_ (i := 2) (N := some 10) (v := ?_) (a' := ?_) #[true, true, true, false, false, false, false, false, false, false, false, false, false, false, false, false, false] rfl rfl (any_of HT_.out (by kernel_rfl)) (fun _ _ _ h => h) (Or.inl ⟨by rfl, ?_⟩) ?_ ?_
  rotate_left
  ·intro w'
   go_simp
   with_reducible rfl
  rotate_left
  ·simp only [Act.put, List.setIfInBounds_toArray, List.set_cons_zero, List.set_cons_succ, i64_w, i32_w]
   rfl
  refine pure_ (i := 3) (N := some 11) (v := ?_) (a' := ?_) #[true, true, true, true, false, false, false, false, false, false, false, false, false, false, false, false, false] rfl rfl (any_of HT_.out (by kernel_rfl)) (fun _ _ _ h => h) (Or.inl ⟨by rfl, ?_⟩) ?_ ?_
  rotate_left
  ·intro w'
   go_simp
   with_reducible rfl
  rotate_left
  ·simp only [Act.put, List.setIfInBounds_toArray, List.set_cons_zero, List.set_cons_succ, i64_w, i32_w]
   rfl
  refine pure_ (i := 5) (N := some 13) (v := ?_) (a' := ?_) #[true, true, true, true, false, true, false, false, false, false, false, false, false, false, false, false, false] rfl rfl (any_of HT_.out (by kernel_rfl)) (fun _ _ _ h => h) (Or.inl ⟨by rfl, ?_⟩) ?_ ?_
  rotate_left
  ·intro w'
   go_simp
   with_reducible rfl
  rotate_left
  ·simp only [Act.put, List.setIfInBounds_toArray, List.set_cons_zero, List.set_cons_succ, i64_w, i32_w]
   rfl
  refine pure_ (i := 6) (N := some 14) (v := ?_) (a' := ?_) #[true, true, true, true, false, true, true, false, false, false, false, false, false, false, false, false, false] rfl rfl (any_of HT_.out (by kernel_rfl)) (fun _ _ _ h => h) (Or.inl ⟨by rfl, ?_⟩) ?_ ?_
  rotate_left
  ·intro w'
   go_simp
   with_reducible rfl
  rotate_left
  ·simp only [Act.put, List.setIfInBounds_toArray, List.set_cons_zero, List.set_cons_succ, i64_w, i32_w]
   rfl
  refine pure_ (i := 7) (N := some 15) (v := ?_) (a' := ?_) #[true, true, true, true, false, true, true, true, false, false, false, false, false, false, false, false, false] rfl rfl (any_of HT_.out (by kernel_rfl)) (fun _ _ _ h => h) (Or.inl ⟨by rfl, ?_⟩) ?_ ?_
  rotate_left
  ·intro w'
   go_simp
   with_reducible rfl
  rotate_left
  ·simp only [Act.put, List.setIfInBounds_toArray, List.set_cons_zero, List.set_cons_succ, i64_w, i32_w]
   rfl
  refine pure_ (i := 8) (N := some 16) (v := ?_) (a' := ?_) #[true, true, true, true, false, true, true, true, true, false, false, false, false, false, false, false, false] rfl rfl (any_of HT_.out (by kernel_rfl)) (fun _ _ _ h => h) (Or.inl ⟨by rfl, ?_⟩) ?_ ?_
  rotate_left
  ·intro w'
   go_simp
   with_reducible rfl
  rotate_left
  ·simp only [Act.put, List.setIfInBounds_toArray, List.set_cons_zero, List.set_cons_succ, i64_w, i32_w]
   rfl
  refine pure_ (i := 10) (N := some 18) (v := ?_) (a' := ?_) #[true, true, true, true, false, true, true, true, true, false, true, false, false, false, false, false, false] rfl rfl (any_of HT_.out (by kernel_rfl)) (fun _ _ _ h => h) (Or.inl ⟨by rfl, ?_⟩) ?_ ?_
  rotate_left
  ·intro w'
   go_simp
   with_reducible rfl
  rotate_left
  ·simp only [Act.put, List.setIfInBounds_toArray, List.set_cons_zero, List.set_cons_succ, i64_w, i32_w]
   rfl
  refine pure_ (i := 11) (N := some 19) (v := ?_) (a' := ?_) #[true, true, true, true, false, true, true, true, true, false, true, true, false, false, false, false, false] rfl rfl (any_of HT_.out (by kernel_rfl)) (fun _ _ _ h => h) (Or.inl ⟨by rfl, ?_⟩) ?_ ?_
  rotate_left
  ·intro w'
   go_simp
   with_reducible rfl
  rotate_left
  ·simp only [Act.put, List.setIfInBounds_toArray, List.set_cons_zero, List.set_cons_succ, i64_w, i32_w]
   rfl
  refine pure_ (i := 12) (N := some 20) (v := ?_) (a' := ?_) #[true, true, true, true, false, true, true, true, true, false, true, true, true, false, false, false, false] rfl rfl (any_of HT_.out (by kernel_rfl)) (fun _ _ _ h => h) (Or.inl ⟨by rfl, ?_⟩) ?_ ?_
  rotate_left
  ·intro w'
   go_simp
   with_reducible rfl
  rotate_left
  ·simp only [Act.put, List.setIfInBounds_toArray, List.set_cons_zero, List.set_cons_succ, i64_w, i32_w]
   rfl
  refine pure_ (i := 13) (N := some 21) (v := ?_) (a' := ?_) #[true, true, true, true, false, true, true, true, true, false, true, true, true, true, false, false, false] rfl rfl (any_of HT_.out (by kernel_rfl)) (fun _ _ _ h => h) (Or.inl ⟨by rfl, ?_⟩) ?_ ?_
  rotate_left
  ·intro w'
   go_simp
   with_reducible rfl
  rotate_left
  ·simp only [Act.put, List.setIfInBounds_toArray, List.set_cons_zero, List.set_cons_succ, i64_w, i32_w]
   rfl
  refine take_ (i := 4) (N := some 12) (v := ?_) (a' := ?_) #[true, true, true, true, true, true, true, true, true, false, true, true, true, true, false, false, false] rfl rfl (take_ofW HT_.out HW_.out (by kernel_rfl)) (fun _ _ _ h => h) (Or.inl ⟨by rfl, ?_⟩) hHeld ?_ ?_
  rotate_left
  ·rintro w' ⟨s0, s1, s2⟩
   go_simp
   with_reducible rfl
  rotate_left
  ·simp only [Act.put, List.setIfInBounds_toArray, List.set_cons_zero, List.set_cons_succ, i64_w, i32_w]
   rfl
  refine take_ (i := 9) (N := some 17) (v := ?_) (a' := ?_) #[true, true, true, true, true, true, true, true, true, true, true, true, true, true, false, false, false] rfl rfl (take_ofW HT_.out HW_.out (by kernel_rfl)) (fun _ _ _ h => h) (Or.inl ⟨by rfl, ?_⟩) hHeld ?_ ?_
  rotate_left
  ·rintro w' ⟨s0, s1, s2⟩
   go_simp
   with_reducible rfl
  rotate_left
  ·simp only [Act.put, List.setIfInBounds_toArray, List.set_cons_zero, List.set_cons_succ, i64_w, i32_w]
   rfl
  refine take_ (i := 14) (N := some 22) (v := ?_) (a' := ?_) #[true, true, true, true, true, true, true, true, true, true, true, true, true, true, true, false, false] rfl rfl (take_ofW HT_.out HW_.out (by kernel_rfl)) (fun _ _ _ h => h) (Or.inl ⟨by rfl, ?_⟩) hHeld ?_ ?_
  rotate_left
  ·rintro w' ⟨s0, s1, s2⟩
   go_simp
   with_reducible rfl
  rotate_left
  ·simp only [Act.put, List.setIfInBounds_toArray, List.set_cons_zero, List.set_cons_succ, i64_w, i32_w]
   rfl
  refine pure_ (i := 15) (N := some 23) (v := ?_) (a' := ?_) #[true, true, true, true, true, true, true, true, true, true, true, true, true, true, true, true, false] rfl rfl (any_of HT_.out (by kernel_rfl)) (fun _ _ _ h => h) (Or.inl ⟨by rfl, ?_⟩) ?_ ?_
  rotate_left
  ·intro w'
   go_simp
   with_reducible rfl
  rotate_left
  ·simp only [Act.put, List.setIfInBounds_toArray, List.set_cons_zero, List.set_cons_succ, i64_w, i32_w]
   rfl
  refine pure_ (i := 16) (N := some 6) (v := ?_) (a' := ?_) #[true, true, true, true, true, true, true, true, true, true, true, true, true, true, true, true, true] rfl rfl (any_of HT_.out (by kernel_rfl)) (fun _ _ _ h => h) (Or.inl ⟨by rfl, ?_⟩) ?_ ?_
  rotate_left
  ·intro w'
   go_simp
   with_reducible rfl
  rotate_left
  ·simp only [Act.put, List.setIfInBounds_toArray, List.set_cons_zero, List.set_cons_succ, i64_w, i32_w]
   rfl
  refine done_ (done_of HT_.out (by kernel_rfl)) ?_
  clear hM1 hM
  try have q1 : decide (M ≥ e) = false := decide_eq_false (by have := HLT.out; omega)
  try have q2 : decide (e ≤ M) = false := decide_eq_false (by have := HLT.out; omega)
  have qi : ((i : Int) == (l.length : Int)) = false := beq_eq_false_iff_ne.mpr (by omega)
  have qj : (i == l.length) = false := beq_eq_false_iff_ne.mpr (by omega)
  have hc_ := CP.out
  unfold pC at hc_
  have p0 := blk_cell hc_ 0
  have p1 := blk_cell hc_ 1
  have p2 := blk_cell hc_ 2
  have p3 := blk_cell hc_ 3
  have p4 := blk_cell hc_ 4
  have p5 := blk_cell hc_ 5
  have p6 := blk_cell hc_ 6
  have p7 := blk_cell hc_ 7
  simp only [List.getElem?_toArray, List.getElem?_cons_zero, List.getElem?_cons_succ] at p0 p1 p2 p3 p4 p5 p6 p7
  clear hc_
  have zp := blk_lt CP.out
  go_wp2_with fail
  clear p0 p1 p2 p3 p4 p5 p6 p7 zp
  clear qi qj
  have FR0 := FR
  have CP0 := CP
  have TM0 := TM
  have BW0 := BW
  clear FR CP TM BW HBr
  go_loopw [7] (fun v7 wr => ∃ t k : Nat, t = k + 1 ∧ 1 ≤ t ∧ t ≤ 3 ∧ v7 = .int .i64 t ∧ ∃ vb' : Value, Frm (fun k => k = P ∨ k = gt) w wr ∧ wr.heap[P]? = some (pC l As cs gt ct en vb' (upT (tStep l (tryV l n (i + 1)) i en) k (team, best, e)).2.2) ∧ wr.heap[gt]? = some (.cells ((upT (tStep l (tryV l n (i + 1)) i en) k (team, best, e)).1.map (Value.int .i64)).toArray 3 (0, 0)) ∧ (upT (tStep l (tryV l n (i + 1)) i en) k (team, best, e)).1.length = l.length ∧ BT w0.heap.size P gt wr vb' (upT (tStep l (tryV l n (i + 1)) i en) k (team, best, e)).2.1) (fun v7 _ => 3 - (intOf v7).toNat)
  case atStart => exact ⟨1, 0, rfl, Nat.le_refl _, by omega, rfl, _, FR0.out, CP0.out, TM0.out, HTL.out, BW0.out⟩
  case round =>
   clear FR0 CP0 TM0 BW0
   obtain ⟨t, k, hkt, ht1, ht3, rfl, vi, hfr, hcp, htm, htl, hbv⟩ := hrel
   have HKT := Aside0.mk hkt
   clear hkt
   generalize hbi : upT (tStep l (tryV l n (i + 1)) i en) k (team, best, e) = bi at hcp htm htl hbv
   have HBI := Aside0.mk hbi
   have TL := Aside0.mk htl
   have FR := Aside0.mk hfr
   have CP := Aside0.mk hcp
   have TM := Aside0.mk htm
   have BW := Aside0.mk hbv
   clear hbi htl hfr hcp htm hbv
   have HBr := Aside0.mk (FR.out.below HB0.out (fun k hk => by rcases hk with h | h <;> rw [h] <;> assumption))
   by_cases hlt : t ≤ 2
   ·have HE := Aside0.mk (show upT (tStep l (tryV l n (i + 1)) i en) (k + 1) (team, best, e) = tryV l n (i + 1) (en.set t (wrap64 (rd en t + (rd_T43 l i).f2))) (bi.1.set i (t : Int), bi.2.1, bi.2.2) from by rw [upT_succ, HBI.out, ← HKT.out, tStep])
    obtain ⟨ad, eA, _, _, x2⟩ := at_T43 HL.out (i : Int) (by omega) (by omega)
    injection eA with eA
    subst eA
    rw [Int.toNat_natCast] at x2
    have X2 := Aside0.mk x2
    clear x2
    have HN := Aside0.mk (show wrap64 ((i : Int) + 1) = ((i + 1 : Nat) : Int) from by unfold wrap64; omega)
    have hc_ := CP.out
    unfold pC at hc_
    have p0 := blk_cell hc_ 0
    have p1 := blk_cell hc_ 1
    have p2 := blk_cell hc_ 2
    have p3 := blk_cell hc_ 3
    have p4 := blk_cell hc_ 4
    have p5 := blk_cell hc_ 5
    have p6 := blk_cell hc_ 6
    have p7 := blk_cell hc_ 7
    simp only [List.getElem?_toArray, List.getElem?_cons_zero, List.getElem?_cons_succ] at p0 p1 p2 p3 p4 p5 p6 p7
    clear hc_
    have zp := blk_lt CP.out
    have tc := ints_cell TM.out i (by have := TL.out; omega)
    have tf := blk_frozen TM.out i
    have zT := blk_lt TM.out
    have ql : decide ((t : Int) ≤ 2) = true := decide_eq_true (by omega)
    go_wp2_with fail
    clear tc tf zT ql
    clear p0 p1 p2 p3 p4 p5 p6 p7 zp
    have nFR_ := Aside0.mk (Frm.set (S := (fun k => k = P ∨ k = gt)) (g := gt) FR.out (Or.inr rfl) i (.int .i64 (t : Int)))
    have nCP_ := Aside0.mk ((Below.heap_setCell wr ⟨gt, i, none⟩ (.int .i64 (t : Int)) P nPt).trans CP.out)
    have nTM_ := Aside0.mk (ints_set TM.out i (t : Int))
    have nBW_ := Aside0.mk (BT_step BW.out (fun k hk _ => Below.heap_setCell wr ⟨gt, i, none⟩ (.int .i64 (t : Int)) k hk.2))
    have nHBr_ := Aside0.mk (nFR_.out.below HB0.out (fun k hk => by rcases hk with h | h <;> rw [h] <;> assumption))
    clear FR CP TM BW HBr
    have FR := nFR_
    have CP := nCP_
    have TM := nTM_
    have BW := nBW_
    have HBr := nHBr_
    clear nFR_ nCP_ nTM_ nBW_ nHBr_
    generalize wr.setCell ⟨gt, i, none⟩ (.int .i64 (t : Int)) = ws at FR CP TM BW HBr ⊢
    have ht4 : (t : Int) < 4 := by omega
    have hil : i < l.length := by omega
    have hb := below_drew (Below.refl ws.heap.size ws)
    have nFR_ := Aside0.mk (FR.out.trans (Frm.of_below hb))
    have nCP_ := Aside0.mk (blk_below CP.out hb)
    have nTM_ := Aside0.mk (blk_below TM.out hb)
    have nBW_ := Aside0.mk (BT_below BW.out hb)
    have nHBr_ := Aside0.mk (below_step HBr.out hb)
    clear hb
    clear FR CP TM BW HBr
    have FR := nFR_
    have CP := nCP_
    have TM := nTM_
    have BW := nBW_
    have HBr := nHBr_
    clear nFR_ nCP_ nTM_ nBW_ nHBr_
    refine start_ (n := 19) (S := fun w' => w'.cell? ⟨P, 2 + t, none⟩ = some (.int .i64 (rd en t)) ∧ w'.cell? ⟨P, 0, none⟩ = some (.slice (some As) l.length cs) ∧ w'.cell? ⟨(As.add (i * 3)).block, (As.add (i * 3)).off + 2, none⟩ = some (.int .i64 (rd_T43 l i).f2)) (ds := [18]) #[false, false, false, false, false, false, false, false, false, false, false, false, false, false, false, false, false, false, false] (by kernel_rfl) rfl rfl ⟨(pC_cell CP.out ht1 ht3), ((blk_cell CP.out 0).trans rfl), ((HBr.out.cell (World.block_lt_of_cell? w0 _ X2.out)).trans X2.out)⟩ (fun hHeld => ?_)
    refine with_tabW X36.tab8 X36.bits8 (fun HT_ HW_ => ?_)
    generalize ws.drew = wd2 at FR CP TM BW HBr hHeld ⊢
    refine pure_ (i := 0) (N := some 68) (v := ?_) (a' := ?_) #[true, false, false, false, false, false, false, false, false, false, false, false, false, false, false, false, false, false, false] rfl rfl (any_of HT_.out (by kernel_rfl)) (fun _ _ _ h => h) (Or.inl ⟨by rfl, ?_⟩) ?_ ?_
    rotate_left
    ·intro w'
     go_simp
     with_reducible rfl
    rotate_left
    ·simp only [Act.put, List.setIfInBounds_toArray, List.set_cons_zero, List.set_cons_succ, i64_w, i32_w]
     rfl
    refine pure_ (i := 1) (N := some 69) (v := ?_) (a' := ?_) #[true, true, false, false, false, false, false, false, false, false, false, false, false, false, false, false, false, false, false] rfl rfl (any_of HT_.out (by kernel_rfl)) (fun _ _ _ h => h) (Or.inl ⟨by rfl, ?_⟩) ?_ ?_
    rotate_left
    ·intro w'
     go_simp
     with_reducible rfl
    rotate_left
    ·simp only [Act.put, List.setIfInBounds_toArray, List.set_cons_zero, List.set_cons_succ, i64_w, i32_w]
     rfl
    refine pure_ (i := 2) (N := some 70) (v := ?_) (a' := ?_) #[true, true, true, false, false, false, false, false, false, false, false, false, false, false, false, false, false, false, false] rfl rfl (any_of HT_.out (by kernel_rfl)) (fun _ _ _ h => h) (Or.inl ⟨by rfl, ?_⟩) ?_ ?_
    rotate_left
    ·intro w'
     go_simp
     with_reducible rfl
    rotate_left
    ·simp only [Act.put, List.setIfInBounds_toArray, List.set_cons_zero, List.set_cons_succ, i64_w, i32_w]
     rfl
    refine pure_ (i := 3) (N := some 71) (v := ?_) (a' := ?_) #[true, true, true, true, false, false, false, false, false, false, false, false, false, false, false, false, false, false, false] rfl rfl (any_of HT_.out (by kernel_rfl)) (fun _ _ _ h => h) (Or.inl ⟨by rfl, ?_⟩) ?_ ?_
    rotate_left
    ·intro w'
     go_simp
     with_reducible rfl
    rotate_left
    ·simp only [Act.put, List.setIfInBounds_toArray, List.set_cons_zero, List.set_cons_succ, i64_w, i32_w]
     rfl
    refine pure_ (i := 4) (N := some 72) (v := ?_) (a' := ?_) #[true, true, true, true, true, false, false, false, false, false, false, false, false, false, false, false, false, false, false] rfl rfl (any_of HT_.out (by kernel_rfl)) (fun _ _ _ h => h) (Or.inl ⟨by rfl, ?_⟩) ?_ ?_
    rotate_left
    ·intro w'
     go_simp
     with_reducible rfl
    rotate_left
    ·simp only [Act.put, List.setIfInBounds_toArray, List.set_cons_zero, List.set_cons_succ, i64_w, i32_w]
     rfl
    refine pure_ (i := 6) (N := some 74) (v := ?_) (a' := ?_) #[true, true, true, true, true, false, true, false, false, false, false, false, false, false, false, false, false, false, false] rfl rfl (any_of HT_.out (by kernel_rfl)) (fun _ _ _ h => h) (Or.inl ⟨by rfl, ?_⟩) ?_ ?_
    rotate_left
    ·intro w'
     go_simp
     with_reducible rfl
    rotate_left
    ·simp only [Act.put, List.setIfInBounds_toArray, List.set_cons_zero, List.set_cons_succ, i64_w, i32_w]
     rfl
    refine pure_ (i := 7) (N := some 75) (v := ?_) (a' := ?_) #[true, true, true, true, true, false, true, true, false, false, false, false, false, false, false, false, false, false, false] rfl rfl (any_of HT_.out (by kernel_rfl)) (fun _ _ _ h => h) (Or.inl ⟨by rfl, ?_⟩) ?_ ?_
    rotate_left
    ·intro w'
     go_simp
     with_reducible rfl
    rotate_left
    ·simp only [Act.put, List.setIfInBounds_toArray, List.set_cons_zero, List.set_cons_succ, i64_w, i32_w]
     rfl
    refine pure_ (i := 8) (N := some 76) (v := ?_) (a' := ?_) #[true, true, true, true, true, false, true, true, true, false, false, false, false, false, false, false, false, false, false] rfl rfl (any_of HT_.out (by kernel_rfl)) (fun _ _ _ h => h) (Or.inl ⟨by rfl, ?_⟩) ?_ ?_
    rotate_left
    ·intro w'
     go_simp
     with_reducible rfl
    rotate_left
    ·simp only [Act.put, List.setIfInBounds_toArray, List.set_cons_zero, List.set_cons_succ, i64_w, i32_w]
     rfl
    refine pure_ (i := 10) (N := some 78) (v := ?_) (a' := ?_) #[true, true, true, true, true, false, true, true, true, false, true, false, false, false, false, false, false, false, false] rfl rfl (any_of HT_.out (by kernel_rfl)) (fun _ _ _ h => h) (Or.inl ⟨by rfl, ?_⟩) ?_ ?_
    rotate_left
    ·intro w'
     go_simp
     with_reducible rfl
    rotate_left
    ·simp only [Act.put, List.setIfInBounds_toArray, List.set_cons_zero, List.set_cons_succ, i64_w, i32_w]
     rfl
    refine pure_ (i := 15) (N := some 83) (v := ?_) (a' := ?_) #[true, true, true, true, true, false, true, true, true, false, true, false, false, false, false, true, false, false, false] rfl rfl (any_of HT_.out (by kernel_rfl)) (fun _ _ _ h => h) (Or.inl ⟨by rfl, ?_⟩) ?_ ?_
    rotate_left
    ·intro w'
     go_simp
     with_reducible rfl
    rotate_left
    ·simp only [Act.put, List.setIfInBounds_toArray, List.set_cons_zero, List.set_cons_succ, i64_w, i32_w]
     rfl
    refine pure_ (i := 16) (N := some 84) (v := ?_) (a' := ?_) #[true, true, true, true, true, false, true, true, true, false, true, false, false, false, false, true, true, false, false] rfl rfl (any_of HT_.out (by kernel_rfl)) (fun _ _ _ h => h) (Or.inl ⟨by rfl, ?_⟩) ?_ ?_
    rotate_left
    ·intro w'
     go_simp
     with_reducible rfl
    rotate_left
    ·simp only [Act.put, List.setIfInBounds_toArray, List.set_cons_zero, List.set_cons_succ, i64_w, i32_w]
     rfl
    refine take_ (i := 5) (N := some 73) (v := ?_) (a' := ?_) #[true, true, true, true, true, true, true, true, true, false, true, false, false, false, false, true, true, false, false] rfl rfl (take_ofW HT_.out HW_.out (by kernel_rfl)) (fun _ _ _ h => h) (Or.inl ⟨by rfl, ?_⟩) hHeld ?_ ?_
    rotate_left
    ·rintro w' ⟨s0, s1, s2⟩
     go_simp
     with_reducible rfl
    rotate_left
    ·simp only [Act.put, List.setIfInBounds_toArray, List.set_cons_zero, List.set_cons_succ, i64_w, i32_w]
     rfl
    refine take_ (i := 9) (N := some 77) (v := ?_) (a' := ?_) #[true, true, true, true, true, true, true, true, true, true, true, false, false, false, false, true, true, false, false] rfl rfl (take_ofW HT_.out HW_.out (by kernel_rfl)) (fun _ _ _ h => h) (Or.inl ⟨by rfl, ?_⟩) hHeld ?_ ?_
    rotate_left
    ·rintro w' ⟨s0, s1, s2⟩
     go_simp
     with_reducible rfl
    rotate_left
    ·simp only [Act.put, List.setIfInBounds_toArray, List.set_cons_zero, List.set_cons_succ, i64_w, i32_w]
     rfl
    refine pure_ (i := 11) (N := some 79) (v := ?_) (a' := ?_) #[true, true, true, true, true, true, true, true, true, true, true, true, false, false, false, true, true, false, false] rfl rfl (any_of HT_.out (by kernel_rfl)) (fun _ _ _ h => h) (Or.inl ⟨by rfl, ?_⟩) ?_ ?_
    rotate_left
    ·intro w'
     go_simp
     with_reducible rfl
    rotate_left
    ·simp only [Act.put, List.setIfInBounds_toArray, List.set_cons_zero, List.set_cons_succ, i64_w, i32_w]
     rfl
    refine pure_ (i := 12) (N := some 80) (v := ?_) (a' := ?_) #[true, true, true, true, true, true, true, true, true, true, true, true, true, false, false, true, true, false, false] rfl rfl (any_of HT_.out (by kernel_rfl)) (fun _ _ _ h => h) (Or.inl ⟨by rfl, ?_⟩) ?_ ?_
    rotate_left
    ·intro w'
     go_simp
     with_reducible rfl
    rotate_left
    ·simp only [Act.put, List.setIfInBounds_toArray, List.set_cons_zero, List.set_cons_succ, i64_w, i32_w]
     rfl
    refine take_ (i := 13) (N := some 81) (v := ?_) (a' := ?_) #[true, true, true, true, true, true, true, true, true, true, true, true, true, true, false, true, true, false, false] rfl rfl (take_ofW HT_.out HW_.out (by kernel_rfl)) (fun _ _ _ h => h) (Or.inl ⟨by rfl, ?_⟩) hHeld ?_ ?_
    rotate_left
    ·rintro w' ⟨s0, s1, s2⟩
     go_simp
     with_reducible rfl
    rotate_left
    ·simp only [Act.put, List.setIfInBounds_toArray, List.set_cons_zero, List.set_cons_succ, i64_w, i32_w]
     rfl
    refine pure_ (i := 14) (N := some 82) (v := ?_) (a' := ?_) #[true, true, true, true, true, true, true, true, true, true, true, true, true, true, true, true, true, false, false] rfl rfl (any_of HT_.out (by kernel_rfl)) (fun _ _ _ h => h) (Or.inl ⟨by rfl, ?_⟩) ?_ ?_
    rotate_left
    ·intro w'
     go_simp
     with_reducible rfl
    rotate_left
    ·simp only [Act.put, List.setIfInBounds_toArray, List.set_cons_zero, List.set_cons_succ, i64_w, i32_w]
     rfl
    refine pure_ (i := 17) (N := some 85) (v := ?_) (a' := ?_) #[true, true, true, true, true, true, true, true, true, true, true, true, true, true, true, true, true, true, false] rfl rfl (any_of HT_.out (by kernel_rfl)) (fun _ _ _ h => h) (Or.inl ⟨by rfl, ?_⟩) ?_ ?_
    rotate_left
    ·intro w'
     go_simp
     with_reducible rfl
    rotate_left
    ·simp only [Act.put, List.setIfInBounds_toArray, List.set_cons_zero, List.set_cons_succ, i64_w, i32_w]
     rfl
    refine last_ (i := 18) (N := none) #[true, true, true, true, true, true, true, true, true, true, true, true, true, true, true, true, true, true, true] rfl rfl (one_of HT_.out (by kernel_rfl)) (by decide) (fun K hK => ?_)
    refine skip_ (w1 := wd2.setCells P (2 + t) [.int .i64 (wrap64 (rd en t + (rd_T43 l i).f2))]) (by rfl) rfl (run_store_oper rfl ?_) ?_
    ·exact run_store_run (P := Try.prog) (w := wd2) (g := P) (o := 2 + t) 3 (.int .i64 (wrap64 (rd en t + (rd_T43 l i).f2))) [.int .i64 (wrap64 (rd en t + (rd_T43 l i).f2))] CP.out rfl (by kernel_rfl) (by simp; omega) (by intro q hq; simp at hq; subst hq; rfl)
    have nFR_ := Aside0.mk (Frm.sets (S := (fun k => k = P ∨ k = gt)) (g := P) FR.out (Or.inl rfl) (2 + t) [.int .i64 (wrap64 (rd en t + (rd_T43 l i).f2))])
    have nCP_ := Aside0.mk (pC_set CP.out HEN.out ht1 ht3 (wrap64 (rd en t + (rd_T43 l i).f2)))
    have nTM_ := Aside0.mk ((setCells_far (w := wd2) (g := P) [.int .i64 (wrap64 (rd en t + (rd_T43 l i).f2))] (2 + t) gt nPt.symm).trans TM.out)
    have nBW_ := Aside0.mk (BT_step BW.out (fun k hk _ => setCells_far (w := wd2) (g := P) [.int .i64 (wrap64 (rd en t + (rd_T43 l i).f2))] (2 + t) k hk.1))
    have nHBr_ := Aside0.mk (nFR_.out.below HB0.out (fun k hk => by rcases hk with h | h <;> rw [h] <;> assumption))
    clear FR CP TM BW HBr
    have FR := nFR_
    have CP := nCP_
    have TM := nTM_
    have BW := nBW_
    have HBr := nHBr_
    clear nFR_ nCP_ nTM_ nBW_ nHBr_
    generalize wd2.setCells P (2 + t) [.int .i64 (wrap64 (rd en t + (rd_T43 l i).f2))] = ws2 at FR CP TM BW HBr ⊢
    refine hK.out _ _ ?_
    clear hK K
    refine done_ (done_of HT_.out (by kernel_rfl)) ?_
    generalize hv : wrap64 (rd en t + (rd_T43 l i).f2) = v at CP HE ⊢
    have HV := Aside0.mk hv
    clear hv
    go_wp2_with fail
    refine (HIH.out (i + 1) _ (en.set t v) (bi.1.set i (t : Int)) vi bi.2.2 bi.2.1 ws2 (by first | exact HN.out | omega) (by rw [List.length_set]; exact HEN.out) (fun j hj => ?hin) (by rw [List.length_set]; exact TL.out) HBr.out CP.out TM.out BW.out (by omega)).mono ?_
    case hin =>
     by_cases ej : j = t
     ·subst ej; rw [rdi_at _ (by have := HEN.out; omega), ← HV.out]; exact wrap_in _
     ·rw [rdi_ne _ ej]; exact HIN.out j hj
    rintro e_ wt ⟨rfl, hfr, vt, hcp, htm, htl2, hbv⟩
    rw [← HE.out] at hcp htm htl2 hbv
    clear HE
    have nFR_ := Aside0.mk (FR.out.trans hfr)
    have nCP_ := Aside0.mk hcp
    have nTM_ := Aside0.mk htm
    have nBW_ := Aside0.mk hbv
    have nHBr_ := Aside0.mk (nFR_.out.below HB0.out (fun k hk => by rcases hk with h | h <;> rw [h] <;> assumption))
    have TL2 := Aside0.mk htl2
    clear hfr hcp htm htl2 hbv
    clear FR CP TM BW HBr
    have FR := nFR_
    have CP := nCP_
    have TM := nTM_
    have BW := nBW_
    have HBr := nHBr_
    clear nFR_ nCP_ nTM_ nBW_ nHBr_
    have WB := Aside0.mk (show wrap64 (v - (rd_T43 l i).f2) = rd en t from by rw [← HV.out]; exact wrap_back (HIN.out t (by omega)))
    go_wp2_with fail
    have hb := below_drew (Below.refl wt.heap.size wt)
    have nFR_ := Aside0.mk (FR.out.trans (Frm.of_below hb))
    have nCP_ := Aside0.mk (blk_below CP.out hb)
    have nTM_ := Aside0.mk (blk_below TM.out hb)
    have nBW_ := Aside0.mk (BT_below BW.out hb)
    have nHBr_ := Aside0.mk (below_step HBr.out hb)
    clear hb
    clear FR CP TM BW HBr
    have FR := nFR_
    have CP := nCP_
    have TM := nTM_
    have BW := nBW_
    have HBr := nHBr_
    clear nFR_ nCP_ nTM_ nBW_ nHBr_
    refine start_ (n := 19) (S := fun w' => w'.cell? ⟨P, 2 + t, none⟩ = some (.int .i64 (v)) ∧ w'.cell? ⟨P, 0, none⟩ = some (.slice (some As) l.length cs) ∧ w'.cell? ⟨(As.add (i * 3)).block, (As.add (i * 3)).off + 2, none⟩ = some (.int .i64 (rd_T43 l i).f2)) (ds := [18]) #[false, false, false, false, false, false, false, false, false, false, false, false, false, false, false, false, false, false, false] (by kernel_rfl) rfl rfl ⟨(by have h_ := pC_cell CP.out ht1 ht3; rw [rdi_at _ (by have := HEN.out; omega)] at h_; exact h_), ((blk_cell CP.out 0).trans rfl), ((HBr.out.cell (World.block_lt_of_cell? w0 _ X2.out)).trans X2.out)⟩ (fun hHeld => ?_)
    refine with_tabW X36.tab10 X36.bits10 (fun HT_ HW_ => ?_)
    generalize wt.drew = wd3 at FR CP TM BW HBr hHeld ⊢
    refine pure_ (i := 0) (N := some 91) (v := ?_) (a' := ?_) #[true, false, false, false, false, false, false, false, false, false, false, false, false, false, false, false, false, false, false] rfl rfl (any_of HT_.out (by kernel_rfl)) (fun _ _ _ h => h) (Or.inl ⟨by rfl, ?_⟩) ?_ ?_
    rotate_left
    ·intro w'
     go_simp
     with_reducible rfl
    rotate_left
    ·simp only [Act.put, List.setIfInBounds_toArray, List.set_cons_zero, List.set_cons_succ, i64_w, i32_w]
     rfl
    refine pure_ (i := 1) (N := some 92) (v := ?_) (a' := ?_) #[true, true, false, false, false, false, false, false, false, false, false, false, false, false, false, false, false, false, false] rfl rfl (any_of HT_.out (by kernel_rfl)) (fun _ _ _ h => h) (Or.inl ⟨by rfl, ?_⟩) ?_ ?_
    rotate_left
    ·intro w'
     go_simp
     with_reducible rfl
    rotate_left
    ·simp only [Act.put, List.setIfInBounds_toArray, List.set_cons_zero, List.set_cons_succ, i64_w, i32_w]
     rfl
    refine pure_ (i := 2) (N := some 93) (v := ?_) (a' := ?_) #[true, true, true, false, false, false, false, false, false, false, false, false, false, false, false, false, false, false, false] rfl rfl (any_of HT_.out (by kernel_rfl)) (fun _ _ _ h => h) (Or.inl ⟨by rfl, ?_⟩) ?_ ?_
    rotate_left
    ·intro w'
     go_simp
     with_reducible rfl
    rotate_left
    ·simp only [Act.put, List.setIfInBounds_toArray, List.set_cons_zero, List.set_cons_succ, i64_w, i32_w]
     rfl
    refine pure_ (i := 3) (N := some 94) (v := ?_) (a' := ?_) #[true, true, true, true, false, false, false, false, false, false, false, false, false, false, false, false, false, false, false] rfl rfl (any_of HT_.out (by kernel_rfl)) (fun _ _ _ h => h) (Or.inl ⟨by rfl, ?_⟩) ?_ ?_
    rotate_left
    ·intro w'
     go_simp
     with_reducible rfl
    rotate_left
    ·simp only [Act.put, List.setIfInBounds_toArray, List.set_cons_zero, List.set_cons_succ, i64_w, i32_w]
     rfl
    refine pure_ (i := 4) (N := some 95) (v := ?_) (a' := ?_) #[true, true, true, true, true, false, false, false, false, false, false, false, false, false, false, false, false, false, false] rfl rfl (any_of HT_.out (by kernel_rfl)) (fun _ _ _ h => h) (Or.inl ⟨by rfl, ?_⟩) ?_ ?_
    rotate_left
    ·intro w'
     go_simp
     with_reducible rfl
    rotate_left
    ·simp only [Act.put, List.setIfInBounds_toArray, List.set_cons_zero, List.set_cons_succ, i64_w, i32_w]
     rfl
    refine pure_ (i := 6) (N := some 97) (v := ?_) (a' := ?_) #[true, true, true, true, true, false, true, false, false, false, false, false, false, false, false, false, false, false, false] rfl rfl (any_of HT_.out (by kernel_rfl)) (fun _ _ _ h => h) (Or.inl ⟨by rfl, ?_⟩) ?_ ?_
    rotate_left
    ·intro w'
     go_simp
     with_reducible rfl
    rotate_left
    ·simp only [Act.put, List.setIfInBounds_toArray, List.set_cons_zero, List.set_cons_succ, i64_w, i32_w]
     rfl
    refine pure_ (i := 7) (N := some 98) (v := ?_) (a' := ?_) #[true, true, true, true, true, false, true, true, false, false, false, false, false, false, false, false, false, false, false] rfl rfl (any_of HT_.out (by kernel_rfl)) (fun _ _ _ h => h) (Or.inl ⟨by rfl, ?_⟩) ?_ ?_
    rotate_left
    ·intro w'
     go_simp
     with_reducible rfl
    rotate_left
    ·simp only [Act.put, List.setIfInBounds_toArray, List.set_cons_zero, List.set_cons_succ, i64_w, i32_w]
     rfl
    refine pure_ (i := 8) (N := some 99) (v := ?_) (a' := ?_) #[true, true, true, true, true, false, true, true, true, false, false, false, false, false, false, false, false, false, false] rfl rfl (any_of HT_.out (by kernel_rfl)) (fun _ _ _ h => h) (Or.inl ⟨by rfl, ?_⟩) ?_ ?_
    rotate_left
    ·intro w'
     go_simp
     with_reducible rfl
    rotate_left
    ·simp only [Act.put, List.setIfInBounds_toArray, List.set_cons_zero, List.set_cons_succ, i64_w, i32_w]
     rfl
    refine pure_ (i := 10) (N := some 101) (v := ?_) (a' := ?_) #[true, true, true, true, true, false, true, true, true, false, true, false, false, false, false, false, false, false, false] rfl rfl (any_of HT_.out (by kernel_rfl)) (fun _ _ _ h => h) (Or.inl ⟨by rfl, ?_⟩) ?_ ?_
    rotate_left
    ·intro w'
     go_simp
     with_reducible rfl
    rotate_left
    ·simp only [Act.put, List.setIfInBounds_toArray, List.set_cons_zero, List.set_cons_succ, i64_w, i32_w]
     rfl
    refine pure_ (i := 15) (N := some 106) (v := ?_) (a' := ?_) #[true, true, true, true, true, false, true, true, true, false, true, false, false, false, false, true, false, false, false] rfl rfl (any_of HT_.out (by kernel_rfl)) (fun _ _ _ h => h) (Or.inl ⟨by rfl, ?_⟩) ?_ ?_
    rotate_left
    ·intro w'
     go_simp
     with_reducible rfl
    rotate_left
    ·simp only [Act.put, List.setIfInBounds_toArray, List.set_cons_zero, List.set_cons_succ, i64_w, i32_w]
     rfl
    refine pure_ (i := 16) (N := some 107) (v := ?_) (a' := ?_) #[true, true, true, true, true, false, true, true, true, false, true, false, false, false, false, true, true, false, false] rfl rfl (any_of HT_.out (by kernel_rfl)) (fun _ _ _ h => h) (Or.inl ⟨by rfl, ?_⟩) ?_ ?_
    rotate_left
    ·intro w'
     go_simp
     with_reducible rfl
    rotate_left
    ·simp only [Act.put, List.setIfInBounds_toArray, List.set_cons_zero, List.set_cons_succ, i64_w, i32_w]
     rfl
    refine take_ (i := 5) (N := some 96) (v := ?_) (a' := ?_) #[true, true, true, true, true, true, true, true, true, false, true, false, false, false, false, true, true, false, false] rfl rfl (take_ofW HT_.out HW_.out (by kernel_rfl)) (fun _ _ _ h => h) (Or.inl ⟨by rfl, ?_⟩) hHeld ?_ ?_
    rotate_left
    ·rintro w' ⟨s0, s1, s2⟩
     go_simp
     with_reducible rfl
    rotate_left
    ·simp only [Act.put, List.setIfInBounds_toArray, List.set_cons_zero, List.set_cons_succ, i64_w, i32_w]
     rfl
    refine take_ (i := 9) (N := some 100) (v := ?_) (a' := ?_) #[true, true, true, true, true, true, true, true, true, true, true, false, false, false, false, true, true, false, false] rfl rfl (take_ofW HT_.out HW_.out (by kernel_rfl)) (fun _ _ _ h => h) (Or.inl ⟨by rfl, ?_⟩) hHeld ?_ ?_
    rotate_left
    ·rintro w' ⟨s0, s1, s2⟩
     go_simp
     with_reducible rfl
    rotate_left
    ·simp only [Act.put, List.setIfInBounds_toArray, List.set_cons_zero, List.set_cons_succ, i64_w, i32_w]
     rfl
    refine pure_ (i := 11) (N := some 102) (v := ?_) (a' := ?_) #[true, true, true, true, true, true, true, true, true, true, true, true, false, false, false, true, true, false, false] rfl rfl (any_of HT_.out (by kernel_rfl)) (fun _ _ _ h => h) (Or.inl ⟨by rfl, ?_⟩) ?_ ?_
    rotate_left
    ·intro w'
     go_simp
     with_reducible rfl
    rotate_left
    ·simp only [Act.put, List.setIfInBounds_toArray, List.set_cons_zero, List.set_cons_succ, i64_w, i32_w]
     rfl
    refine pure_ (i := 12) (N := some 103) (v := ?_) (a' := ?_) #[true, true, true, true, true, true, true, true, true, true, true, true, true, false, false, true, true, false, false] rfl rfl (any_of HT_.out (by kernel_rfl)) (fun _ _ _ h => h) (Or.inl ⟨by rfl, ?_⟩) ?_ ?_
    rotate_left
    ·intro w'
     go_simp
     with_reducible rfl
    rotate_left
    ·simp only [Act.put, List.setIfInBounds_toArray, List.set_cons_zero, List.set_cons_succ, i64_w, i32_w]
     rfl
    refine take_ (i := 13) (N := some 104) (v := ?_) (a' := ?_) #[true, true, true, true, true, true, true, true, true, true, true, true, true, true, false, true, true, false, false] rfl rfl (take_ofW HT_.out HW_.out (by kernel_rfl)) (fun _ _ _ h => h) (Or.inl ⟨by rfl, ?_⟩) hHeld ?_ ?_
    rotate_left
    ·rintro w' ⟨s0, s1, s2⟩
     go_simp
     with_reducible rfl
    rotate_left
    ·simp only [Act.put, List.setIfInBounds_toArray, List.set_cons_zero, List.set_cons_succ, i64_w, i32_w]
     rfl
    refine pure_ (i := 14) (N := some 105) (v := ?_) (a' := ?_) #[true, true, true, true, true, true, true, true, true, true, true, true, true, true, true, true, true, false, false] rfl rfl (any_of HT_.out (by kernel_rfl)) (fun _ _ _ h => h) (Or.inl ⟨by rfl, ?_⟩) ?_ ?_
    rotate_left
    ·intro w'
     go_simp
     with_reducible rfl
    rotate_left
    ·simp only [Act.put, List.setIfInBounds_toArray, List.set_cons_zero, List.set_cons_succ, i64_w, i32_w]
     rfl
    refine pure_ (i := 17) (N := some 108) (v := ?_) (a' := ?_) #[true, true, true, true, true, true, true, true, true, true, true, true, true, true, true, true, true, true, false] rfl rfl (any_of HT_.out (by kernel_rfl)) (fun _ _ _ h => h) (Or.inl ⟨by rfl, ?_⟩) ?_ ?_
    rotate_left
    ·intro w'
     go_simp
     with_reducible rfl
    rotate_left
    ·simp only [Act.put, List.setIfInBounds_toArray, List.set_cons_zero, List.set_cons_succ, i64_w, i32_w]
     rfl
    refine last_ (i := 18) (N := none) #[true, true, true, true, true, true, true, true, true, true, true, true, true, true, true, true, true, true, true] rfl rfl (one_of HT_.out (by kernel_rfl)) (by decide) (fun K hK => ?_)
    refine skip_ (w1 := wd3.setCells P (2 + t) [.int .i64 (wrap64 (v - (rd_T43 l i).f2))]) (by rfl) rfl (run_store_oper rfl ?_) ?_
    ·exact run_store_run (P := Try.prog) (w := wd3) (g := P) (o := 2 + t) 3 (.int .i64 (wrap64 (v - (rd_T43 l i).f2))) [.int .i64 (wrap64 (v - (rd_T43 l i).f2))] CP.out rfl (by kernel_rfl) (by simp; omega) (by intro q hq; simp at hq; subst hq; rfl)
    have nFR_ := Aside0.mk (Frm.sets (S := (fun k => k = P ∨ k = gt)) (g := P) FR.out (Or.inl rfl) (2 + t) [.int .i64 (wrap64 (v - (rd_T43 l i).f2))])
    have nCP_ := Aside0.mk (pC_set CP.out (by rw [List.length_set]; exact HEN.out) ht1 ht3 (wrap64 (v - (rd_T43 l i).f2)))
    have nTM_ := Aside0.mk ((setCells_far (w := wd3) (g := P) [.int .i64 (wrap64 (v - (rd_T43 l i).f2))] (2 + t) gt nPt.symm).trans TM.out)
    have nBW_ := Aside0.mk (BT_step BW.out (fun k hk _ => setCells_far (w := wd3) (g := P) [.int .i64 (wrap64 (v - (rd_T43 l i).f2))] (2 + t) k hk.1))
    have nHBr_ := Aside0.mk (nFR_.out.below HB0.out (fun k hk => by rcases hk with h | h <;> rw [h] <;> assumption))
    have nCPb_ : ∀ e_, pC l As cs gt ct ((en.set t v).set t (wrap64 (v - (rd_T43 l i).f2))) vt e_ = pC l As cs gt ct en vt e_ := fun e_ => by rw [WB.out, seti_back _ (by have := HEN.out; omega)]
    have nCP2_ := nCP_.out.trans (congrArg some (nCPb_ _))
    clear nCP_ nCPb_
    have nCP_ := Aside0.mk nCP2_
    clear nCP2_
    clear FR CP TM BW HBr
    have FR := nFR_
    have CP := nCP_
    have TM := nTM_
    have BW := nBW_
    have HBr := nHBr_
    clear nFR_ nCP_ nTM_ nBW_ nHBr_
    generalize wd3.setCells P (2 + t) [.int .i64 (wrap64 (v - (rd_T43 l i).f2))] = wu at FR CP TM BW HBr ⊢
    refine hK.out _ _ ?_
    clear hK K
    refine done_ (done_of HT_.out (by kernel_rfl)) ?_
    try go_wp2
    exact ⟨⟨t + 1, k + 1, by rw [HKT.out], by omega, by omega, rfl, vt, FR.out, CP.out, TM.out, TL2.out, BW.out⟩, by simp [intOf]; omega⟩
   ·obtain rfl : k = 2 := by have := HKT.out; omega
    have ql : decide ((t : Int) ≤ 2) = false := decide_eq_false (by omega)
    go_wp2
    (try simp only [Exit.inBlock, Exit.then])
    first | (refine bodyPost_ret (results_none rfl _ _ _) rfl ?_) | (refine bodyPost_end (results_none rfl _ _ _) rfl ?_)
    exact ⟨by first | rfl | (simp; done), FR.out, vi, by rw [HBI.out]; exact CP.out, by rw [HBI.out]; exact TM.out, by rw [HBI.out]; exact TL.out, by rw [HBI.out]; exact BW.out⟩
 )
set_option maxHeartbeats 4000000 in
theorem try_calls (w0 : World) (l : List S43) (As : Addr) (cs P gt ct : Nat) (hl : Kd.C k43 w0 (some As) l.length l) (hlc : l.length ≤ 100) (h0 : 0 < l.length) (hP : w0.heap.size ≤ P) (hgt : w0.heap.size ≤ gt) (nPt : P ≠ gt) (hkt : l.length ≤ ct) (hks : l.length ≤ cs) :
  ∀ (n : Nat) (i : Nat) (ii : Int) (en team : List Int) (vb : Value) (e : Int) (best : List Int) (w : World) (hii : ii = (i : Int)) (hen : en.length = 4) (hin : ∀ j : Nat, j < 4 → In64 (rd en j)) (htl : team.length = l.length) (hB0 : Below w0.heap.size w0 w) (hcP : w.heap[P]? = some (pC l As cs gt ct en vb e)) (hcT : w.heap[gt]? = some (.cells (team.map (Value.int .i64)).toArray 3 (0, 0))) (hbv : BT w0.heap.size P gt w vb best), i + n = l.length → Calls Try.prog 36 #[.pointer (some ⟨P, 0, none⟩), .int .i64 ii, .int .i64 2] w fun e_ w' => e_ = .returned (.tuple #[]) ∧ Frm (fun k => k = P ∨ k = gt) w w' ∧ ∃ vb' : Value, w'.heap[P]? = some (pC l As cs gt ct en vb' (tryV l n i en (team, best, e)).2.2) ∧ w'.heap[gt]? = some (.cells ((tryV l n i en (team, best, e)).1.map (Value.int .i64)).toArray 3 (0, 0)) ∧ (tryV l n i en (team, best, e)).1.length = l.length ∧ BT w0.heap.size P gt w' vb' (tryV l n i en (team, best, e)).2.1 := by
 intro n
 induction n with
 | zero =>
  intro i ii en team vb e best w hii hen hin htl hB0 hcP hcT hbv hn
  cases hb : best.isEmpty with
  | true => exact try_zero_nil w0 l As cs P gt ct hl hlc h0 hP hgt nPt hkt hks i ii en team vb e best w hii hen hin htl hB0 hcP hcT hbv (by omega) (List.isEmpty_iff.1 hb)
  | false =>
   by_cases he : e ≤ lastV en
   ·exact try_cut w0 l As cs P gt ct hl hlc h0 hP hgt nPt hkt hks 0 i ii en team vb e best w hii hen hin htl hB0 hcP hcT hbv hb he
   ·exact try_zero_lt w0 l As cs P gt ct hl hlc h0 hP hgt nPt hkt hks i ii en team vb e best w hii hen hin htl hB0 hcP hcT hbv (by omega) hb he
 | succ n ih =>
  intro i ii en team vb e best w hii hen hin htl hB0 hcP hcT hbv hn
  cases hb : best.isEmpty with
  | true => exact try_succ w0 l As cs P gt ct hl hlc h0 hP hgt nPt hkt hks n ih i ii en team vb e best w hii hen hin htl hB0 hcP hcT hbv hn (.inl (List.isEmpty_iff.1 hb))
  | false =>
   by_cases he : e ≤ lastV en
   ·exact try_cut w0 l As cs P gt ct hl hlc h0 hP hgt nPt hkt hks (n + 1) i ii en team vb e best w hii hen hin htl hB0 hcP hcT hbv hb he
   ·exact try_succ w0 l As cs P gt ct hl hlc h0 hP hgt nPt hkt hks n ih i ii en team vb e best w hii hen hin htl hB0 hcP hcT hbv hn (.inr ⟨hb, he⟩)
theorem ints_cellT {W : World} {g : Nat} {t : TypeId} {xs : List Int} (h : W.heap[g]? = some (.cells (xs.map (Value.int .i64)).toArray t (0, 0))) (i : Nat) (hi : i < xs.length) : W.cell? ⟨g, i, none⟩ = some (.int .i64 (rd xs i)) := by
 rw [cell_of_row W g _ _ t (0, 0) h, List.getElem?_toArray, List.getElem?_map, List.getElem?_eq_getElem hi]
 simp [rd, List.getElem?_eq_getElem hi]
theorem ints_setsT {W : World} {g : Nat} {t : TypeId} {xs : List Int} (h : W.heap[g]? = some (.cells (xs.map (Value.int .i64)).toArray t (0, 0))) (i : Nat) (x : Int) : (W.setCells g i [.int .i64 x]).heap[g]? = some (.cells ((xs.set i x).map (Value.int .i64)).toArray t (0, 0)) :=
 blk_put h i _ (by rw [List.setIfInBounds_toArray, List.map_set])
/-- The jobs of the first k sections, and when each team is free. -/
def planTo (l : List S43) (best : List Int) : Nat → List S64 × List Int
 | 0 => ([], [0, 0, 0, 0])
 | k + 1 => ((planTo l best k).1 ++ [⟨rd best k, (rd_T43 l k).f0, rd (planTo l best k).2 (rd best k), wrap64 (rd (planTo l best k).2 (rd best k) + (rd_T43 l k).f2)⟩], (planTo l best k).2.set (rd best k).toNat (wrap64 (rd (planTo l best k).2 (rd best k) + (rd_T43 l k).f2)))
theorem planTo_len (l : List S43) (best : List Int) : ∀ k, (planTo l best k).2.length = 4 ∧ (planTo l best k).1.length = k
 | 0 => ⟨rfl, rfl⟩
 | k + 1 => by
  obtain ⟨h1, h2⟩ := planTo_len l best k
  refine ⟨by rw [planTo, List.length_set]; exact h1, by rw [planTo, List.length_append, h2]; rfl⟩
def zR : List Int := [0, 0, 0, 0]
def X23.T14 : Bool × List (List Nat × List Nat) := (true, [([], []), ([], []), ([], []), ([2], [2]), ([], []), ([4], [4]), ([5], [5]), ([], []), ([7], [7]), ([8], [8]), ([], []), ([10], [10]), ([9, 11], [9, 11]), ([1, 3, 6, 12], [1, 3, 6, 12]), ([13], [13]), ([0, 14], [0, 14]), ([15, 15, 0, 1, 2, 3, 4, 5, 6, 7, 8, 9, 10, 11, 12, 13, 14, 15], [0, 15])])
def X23.B14 : List Nat := [0, 0, 0, 4, 0, 16, 48, 0, 128, 384, 0, 1024, 3968, 8190, 16382, 32767, 65535]
theorem X23.tab14 : rtab .any (opsOf Try.f23 14) = X23.T14 := by kernel_rfl
theorem X23.bits14 : waitsOk X23.T14.2 X23.B14 = true := by kernel_rfl
def X23.T15 : Bool × List (List Nat × List Nat) := (true, [([], []), ([0], [0]), ([1], [1]), ([], []), ([3], [3]), ([2, 4], [2, 4]), ([0, 0, 1, 2, 3, 4, 5], [0]), ([6, 5, 0, 1, 2, 3, 4, 5], [5, 6])])
def X23.B15 : List Nat := [0, 1, 3, 0, 8, 31, 63, 127]
theorem X23.tab15 : rtab .any (opsOf Try.f23 15) = X23.T15 := by kernel_rfl
theorem X23.bits15 : waitsOk X23.T15.2 X23.B15 = true := by kernel_rfl
def X23.T17 : Bool × List (List Nat × List Nat) := (true, [([], []), ([], []), ([1], [1]), ([0, 0], [0]), ([2, 3, 0, 1, 2, 3], [2]), ([4, 0, 1, 2, 3, 4], [])])
def X23.B17 : List Nat := [0, 0, 2, 1, 15, 31]
theorem X23.tab17 : rtab .any (opsOf Try.f23 17) = X23.T17 := by kernel_rfl
theorem X23.bits17 : waitsOk X23.T17.2 X23.B17 = true := by kernel_rfl
theorem info64r : (Try.prog.info? 64).map (fun i => (i.zero, i.size, i.bytes)) = some (some (.agg #[(.int .i64 0), (.int .i64 0), (.int .i64 0), (.int .i64 0)]), 4, 32) := by kernel_rfl
set_option maxHeartbeats 16000000 in
set_option maxRecDepth 100000 in
theorem plan_calls (ad : Addr) (c0 : Nat) (l : List S43) (w : World) (hr : Kd.C k43 w (some ad) l.length l) (hc : l.length ≤ c0) (hlc : l.length ≤ 100) (h0 : 0 < l.length) (hz : ∀ j : Nat, j < l.length → ¬ (rd_T43 l j).f1 = 0) (R : List Int × List Int × Int) (hR : tryV l l.length 0 zR (List.replicate l.length 0, [], 0) = R) (hbl : R.2.1.length = l.length) (hbt : ∀ j : Nat, j < l.length → 1 ≤ rd R.2.1 j ∧ rd R.2.1 j ≤ 3) :
  Calls Try.prog 23 #[.slice (some ad) l.length c0, .int .i64 2] w fun e w' => ∃ v0_ : Value, e = .returned (.tuple #[v0_, .int .i64 R.2.2, .int .i64 0]) ∧ Kd.R k64 64 w' w.heap.size (fun _ => True) v0_ (planTo l R.2.1 l.length).1 ∧ Below w.heap.size w w' := by
 have hu43 := Try.underlying43
 have hu62 := Try.underlying62
 have hu60 := Try.underlying60
 have hu64 := Try.underlying64
 have HR := Aside0.mk hr
 have HZ := Aside0.mk hz
 have HTR := Aside0.mk hR
 have HBL := Aside0.mk hbl
 have HBT := Aside0.mk hbt
 clear hr hz hR hbl hbt
 go_enter Try.func23, Try.ntmps23
 go_wp2_with fail
 refine (need35 ad c0 l _ HR.out (by omega) HZ.out).mono ?_
 rintro e w1 ⟨v0, rfl, hN, hb⟩
 obtain ⟨gs, cs, rfl, hge, hlt, _⟩ := Kd.N_form hN h0
 obtain ⟨_, hle, hC⟩ := Kd.N_reads' hN
 have HC := Aside0.mk hC
 have HB := Aside0.mk hb
 have HLE := Aside0.mk hle
 clear hN hge hlt hC hb hle
 have qe : ((l.length : Int) == 0) = false := beq_eq_false_iff_ne.mpr (by omega)
 have qe2 : (l.length == 0) = false := beq_eq_false_iff_ne.mpr (by omega)
 go_wp2_with fail
 have HB1 := Aside0.mk (below_alloc (Below.refl w1.heap.size w1) (.cells #[.slice (some ⟨gs, 0, none⟩) l.length cs, .slice none 0 0, .int .i64 0, .int .i64 0, .int .i64 0, .int .i64 0, .slice none 0 0, .int .i64 0] 62 (0, 0)))
 have PA := Aside0.mk (heap_alloc_new w1 (.cells #[.slice (some ⟨gs, 0, none⟩) l.length cs, .slice none 0 0, .int .i64 0, .int .i64 0, .int .i64 0, .int .i64 0, .slice none 0 0, .int .i64 0] 62 (0, 0)))
 have NP_ := Nat.le_refl w1.heap.size
 generalize hPq : w1.heap.size = P at PA ⊢
 have NP := Aside0.mk (show w1.heap.size ≤ P from Nat.le_of_eq hPq)
 clear NP_ hPq
 generalize w1.alloc (.cells #[.slice (some ⟨gs, 0, none⟩) l.length cs, .slice none 0 0, .int .i64 0, .int .i64 0, .int .i64 0, .int .i64 0, .slice none 0 0, .int .i64 0] 62 (0, 0)) = wa at HB1 PA ⊢
 rw [make_ints wa l.length (by omega)]
 have HB2 := Aside0.mk (below_alloc HB1.out (.cells ((List.replicate l.length (0 : Int)).map (Value.int .i64)).toArray 3 (0, 0)))
 have PA2 := Aside0.mk (blk_alloc PA.out (.cells ((List.replicate l.length (0 : Int)).map (Value.int .i64)).toArray 3 (0, 0)))
 have PT := Aside0.mk (heap_alloc_new wa (.cells ((List.replicate l.length (0 : Int)).map (Value.int .i64)).toArray 3 (0, 0)))
 have NT := Aside0.mk (And.intro (blk_lt PA.out) HB1.out.size)
 generalize wa.heap.size = gt at PT NT ⊢
 generalize wa.alloc (.cells ((List.replicate l.length (0 : Int)).map (Value.int .i64)).toArray 3 (0, 0)) = wb at HB2 PA2 PT ⊢
 clear HB1 PA
 have NPT := Aside0.mk (show P ≠ gt from by have := NT.out.1; omega)
 have NGT := Aside0.mk (show w1.heap.size ≤ gt from by have := NT.out.2; omega)
 have p0 := blk_cell PA2.out 0
 have p1 := blk_cell PA2.out 1
 have p2 := blk_cell PA2.out 2
 have p3 := blk_cell PA2.out 3
 have p4 := blk_cell PA2.out 4
 have p5 := blk_cell PA2.out 5
 have p6 := blk_cell PA2.out 6
 have p7 := blk_cell PA2.out 7
 simp only [List.getElem?_toArray, List.getElem?_cons_zero, List.getElem?_cons_succ] at p0 p1 p2 p3 p4 p5 p6 p7
 have fz1 := blk_frozen PA2.out 1
 have zP := blk_lt PA2.out
 go_wp2_with fail
 clear p0 p1 p2 p3 p4 p5 p6 p7 fz1 zP
 have CP := Aside0.mk (show (wb.setCell ⟨P, 1, none⟩ (.slice (some ⟨gt, 0, none⟩) l.length l.length)).heap[P]? = some (pC l ⟨gs, 0, none⟩ cs gt l.length zR (.slice none 0 0) 0) from blk_put PA2.out 1 _ rfl)
 have TM := Aside0.mk ((Below.heap_setCell wb ⟨P, 1, none⟩ (.slice (some ⟨gt, 0, none⟩) l.length l.length) gt (fun h => NPT.out h.symm)).trans PT.out)
 have HB3 := Aside0.mk ((Frm.set (S := fun k => k = P) (g := P) (Frm.refl _ wb) rfl 1 (.slice (some ⟨gt, 0, none⟩) l.length l.length)).below HB2.out (fun k hk => (show k = P from hk) ▸ NP.out))
 generalize wb.setCell ⟨P, 1, none⟩ (.slice (some ⟨gt, 0, none⟩) l.length l.length) = ws at CP TM HB3 ⊢
 clear HB2 PA2 PT
 refine (try_calls w1 l ⟨gs, 0, none⟩ cs P gt l.length HC.out (by omega) h0 NP.out NGT.out NPT.out (Nat.le_refl _) HLE.out l.length 0 0 zR (List.replicate l.length 0) (.slice none 0 0) 0 [] ws rfl rfl (fun j hj => ?hin) (List.length_replicate ..) HB3.out CP.out TM.out ⟨fun _ => rfl, Kd.N_nil _ _ _ _ _⟩ (Nat.zero_add _)).mono ?_
 case hin =>
  obtain rfl | rfl | rfl | rfl : j = 0 ∨ j = 1 ∨ j = 2 ∨ j = 3 := by omega
  all_goals exact ⟨by decide, by decide⟩
 rintro e_ w3 ⟨rfl, hfr, vb, hcp, _, _, hbv⟩
 rw [HTR.out] at hcp hbv
 obtain ⟨gb, cb, rfl, _⟩ := Kd.N_form hbv.2 (by have := HBL.out; omega)
 obtain ⟨_, _, hcb⟩ := Kd.N_reads' hbv.2
 have HCB := Aside0.mk hcb
 have HCP := Aside0.mk hcp
 have HB4 := Aside0.mk (hfr.below HB3.out (fun k hk => by rcases hk with h | h <;> rw [h]; exact NP.out; exact NGT.out))
 clear hcb hcp hbv hfr CP TM HB3
 have HC3 := Aside0.mk (Kd.C_below HC.out HB4.out)
 have HBW := Aside0.mk (below_step HB.out HB4.out)
 clear HC HB HB4 NT
 have hcp3 := HCP.out
 unfold pC at hcp3
 have p0 := blk_cell hcp3 0
 have p1 := blk_cell hcp3 1
 have p2 := blk_cell hcp3 2
 have p3 := blk_cell hcp3 3
 have p4 := blk_cell hcp3 4
 have p5 := blk_cell hcp3 5
 have p6 := blk_cell hcp3 6
 have p7 := blk_cell hcp3 7
 simp only [List.getElem?_toArray, List.getElem?_cons_zero, List.getElem?_cons_succ] at p0 p1 p2 p3 p4 p5 p6 p7
 have zP := blk_lt hcp3
 clear hcp3
 go_wp2_with fail
 clear p0 p1 p2 p3 p4 p5 p6 p7 zP
 have HBr := Aside0.mk (below_alloc (Below.refl w3.heap.size w3) (.cells #[.int .i64 0, .int .i64 0, .int .i64 0, .int .i64 0] 60 (0, 0)))
 have AB := Aside0.mk (show (w3.alloc (.cells #[.int .i64 0, .int .i64 0, .int .i64 0, .int .i64 0] 60 (0, 0))).heap[w3.heap.size]? = some (.cells ((planTo l R.2.1 0).2.map (Value.int .i64)).toArray 60 (0, 0)) from heap_alloc_new w3 (.cells #[.int .i64 0, .int .i64 0, .int .i64 0, .int .i64 0] 60 (0, 0)))
 have NGA := Aside0.mk (Nat.le_refl w3.heap.size)
 generalize hga : w3.heap.size = ga at AB ⊢
 have NGA2 := Aside0.mk (show w3.heap.size ≤ ga from Nat.le_of_eq hga)
 clear hga NGA
 generalize w3.alloc (.cells #[.int .i64 0, .int .i64 0, .int .i64 0, .int .i64 0] 60 (0, 0)) = w4 at HBr AB ⊢
 go_loopw [36, 8] (fun v36 v8 wr => ∃ k : Nat, k ≤ l.length ∧ v36 = .int .i64 k ∧ Below w3.heap.size w3 wr ∧ wr.heap[ga]? = some (.cells ((planTo l R.2.1 k).2.map (Value.int .i64)).toArray 60 (0, 0)) ∧ Kd.R k64 64 wr w3.heap.size (fun j => j ≠ ga) v8 (planTo l R.2.1 k).1) (fun v36 _ _ => l.length - (intOf v36).toNat)
 case atStart => exact ⟨0, Nat.zero_le _, rfl, HBr.out, AB.out, Kd.R_nil _ _ _ _ _⟩
 case round =>
  clear HBr AB
  obtain ⟨k, hk, rfl, hbr, hab, hro⟩ := hrel
  obtain ⟨Aj, cj, rfl⟩ := Kd.R_slice hro
  have HBr := Aside0.mk hbr
  have AB := Aside0.mk hab
  have RO := Aside0.mk hro
  clear hbr hab hro
  have LK := Aside0.mk (planTo_len l R.2.1 k)
  by_cases hlt : k < l.length
  ·obtain ⟨_, eA, x0, x1, x2⟩ := at_T43 HC3.out (k : Int) (by omega) (by omega)
   injection eA with eA
   subst eA
   rw [Int.toNat_natCast] at x0 x1 x2
   simp only [add_plain, Nat.zero_add] at x0 x1 x2
   replace x0 := (HBr.out.cell (World.block_lt_of_cell? w3 _ x0)).trans x0
   replace x1 := (HBr.out.cell (World.block_lt_of_cell? w3 _ x1)).trans x1
   replace x2 := (HBr.out.cell (World.block_lt_of_cell? w3 _ x2)).trans x2
   obtain ⟨_, eB, xb⟩ := Kd.at_int HCB.out (k : Int) (by omega) (by have := HBL.out; omega)
   injection eB with eB
   subst eB
   rw [Int.toNat_natCast] at xb
   simp only [add_plain, Nat.zero_add] at xb
   replace xb := (HBr.out.cell (World.block_lt_of_cell? w3 _ xb)).trans xb
   have xbb := HBT.out k hlt
   obtain ⟨tn, htn⟩ : ∃ tn : Nat, rd R.2.1 k = (tn : Int) := ⟨(rd R.2.1 k).toNat, by omega⟩
   have HTN := Aside0.mk htn
   rw [htn] at xb xbb
   clear htn
   have hqb : (k : Int) < (R.2.1.length : Int) := by have := HBL.out; omega
   have hqc : k < R.2.1.length := by have := HBL.out; omega
   have hc_ := HCP.out
   unfold pC at hc_
   have p6 := blk_cell hc_ 6
   simp only [List.getElem?_toArray, List.getElem?_cons_zero, List.getElem?_cons_succ] at p6
   replace p6 := (HBr.out.cell (World.block_lt_of_cell? w3 _ p6)).trans p6
   clear hc_
   have zP := World.block_lt_of_cell? wr _ p6
   have zb := World.block_lt_of_cell? wr _ xb
   go_wp2_with fail
   clear x0 x1 x2 xb p6 zP zb hqb hqc
   have HE := Aside0.mk (show planTo l R.2.1 (k + 1) = ((planTo l R.2.1 k).1 ++ [(⟨(tn : Int), (rd_T43 l k).f0, rd (planTo l R.2.1 k).2 tn, wrap64 (rd (planTo l R.2.1 k).2 tn + (rd_T43 l k).f2)⟩ : S64)], (planTo l R.2.1 k).2.set tn (wrap64 (rd (planTo l R.2.1 k).2 tn + (rd_T43 l k).f2))) from by rw [planTo, HTN.out, Int.toNat_natCast])
   have BX := Aside0.mk (heap_alloc_new wr (.cells #[.int .i64 (rd_T43 l k).f0, .int .i64 (rd_T43 l k).f1, .int .i64 (rd_T43 l k).f2] 43 (0, 0)))
   have nHBr_ := Aside0.mk (below_alloc HBr.out (.cells #[.int .i64 (rd_T43 l k).f0, .int .i64 (rd_T43 l k).f1, .int .i64 (rd_T43 l k).f2] 43 (0, 0)))
   have nAB_ := Aside0.mk (blk_alloc AB.out (.cells #[.int .i64 (rd_T43 l k).f0, .int .i64 (rd_T43 l k).f1, .int .i64 (rd_T43 l k).f2] 43 (0, 0)))
   have nRO_ := Aside0.mk (Kd.R_alloc RO.out (.cells #[.int .i64 (rd_T43 l k).f0, .int .i64 (rd_T43 l k).f1, .int .i64 (rd_T43 l k).f2] 43 (0, 0)))
   clear HBr AB RO
   have HBr := nHBr_
   have AB := nAB_
   have RO := nRO_
   clear nHBr_ nAB_ nRO_
   generalize wr.heap.size = bx at BX ⊢
   generalize wr.alloc (.cells #[.int .i64 (rd_T43 l k).f0, .int .i64 (rd_T43 l k).f1, .int .i64 (rd_T43 l k).f2] 43 (0, 0)) = wx at HBr AB RO BX ⊢
   have ht4 : (tn : Int) < 4 := by omega
   have nHBr_ := Aside0.mk (below_drew1 HBr.out)
   have nAB_ := Aside0.mk (blk_drew AB.out)
   have nRO_ := Aside0.mk (Kd.R_drew RO.out)
   have nBX_ := Aside0.mk (blk_drew BX.out)
   clear HBr AB RO BX
   have HBr := nHBr_
   have AB := nAB_
   have RO := nRO_
   have BX := nBX_
   clear nHBr_ nAB_ nRO_ nBX_
   refine start_ (n := 17) (S := fun w' => w'.cell? ⟨bx, 0, none⟩ = some (.int .i64 (rd_T43 l k).f0) ∧ w'.cell? ⟨ga, tn, none⟩ = some (.int .i64 (rd (planTo l R.2.1 k).2 tn)) ∧ w'.cell? ⟨bx, 2, none⟩ = some (.int .i64 (rd_T43 l k).f2)) (ds := [14, 15]) #[false, false, false, false, false, false, false, false, false, false, false, false, false, false, false, false, false] (by kernel_rfl) rfl rfl ⟨((blk_cell BX.out 0).trans rfl), (ints_cellT AB.out tn (by have := LK.out.1; omega)), ((blk_cell BX.out 2).trans rfl)⟩ (fun hHeld => ?_)
   refine with_tabW X23.tab14 X23.bits14 (fun HT_ HW_ => ?_)
   generalize wx.drew = wd at HBr AB RO BX hHeld ⊢
   refine pure_ (i := 0) (N := some 46) (v := ?_) (a' := ?_) #[true, false, false, false, false, false, false, false, false, false, false, false, false, false, false, false, false] rfl rfl (any_of HT_.out (by kernel_rfl)) (fun _ _ _ h => h) (Or.inl ⟨by rfl, ?_⟩) ?_ ?_
   rotate_left
   ·intro w'
    go_simp
    with_reducible rfl
   rotate_left
   ·simp only [Act.put, List.setIfInBounds_toArray, List.set_cons_zero, List.set_cons_succ, i64_w, i32_w]
    rfl
   refine pure_ (i := 1) (N := some 47) (v := ?_) (a' := ?_) #[true, true, false, false, false, false, false, false, false, false, false, false, false, false, false, false, false] rfl rfl (any_of HT_.out (by kernel_rfl)) (fun _ _ _ h => h) (Or.inl ⟨by rfl, ?_⟩) ?_ ?_
   rotate_left
   ·intro w'
    go_simp
    with_reducible rfl
   rotate_left
   ·simp only [Act.put, List.setIfInBounds_toArray, List.set_cons_zero, List.set_cons_succ, i64_w, i32_w]
    rfl
   refine pure_ (i := 2) (N := some 48) (v := ?_) (a' := ?_) #[true, true, true, false, false, false, false, false, false, false, false, false, false, false, false, false, false] rfl rfl (any_of HT_.out (by kernel_rfl)) (fun _ _ _ h => h) (Or.inl ⟨by rfl, ?_⟩) ?_ ?_
   rotate_left
   ·intro w'
    go_simp
    with_reducible rfl
   rotate_left
   ·simp only [Act.put, List.setIfInBounds_toArray, List.set_cons_zero, List.set_cons_succ, i64_w, i32_w]
    rfl
   refine pure_ (i := 4) (N := some 50) (v := ?_) (a' := ?_) #[true, true, true, false, true, false, false, false, false, false, false, false, false, false, false, false, false] rfl rfl (any_of HT_.out (by kernel_rfl)) (fun _ _ _ h => h) (Or.inl ⟨by rfl, ?_⟩) ?_ ?_
   rotate_left
   ·intro w'
    go_simp
    with_reducible rfl
   rotate_left
   ·simp only [Act.put, List.setIfInBounds_toArray, List.set_cons_zero, List.set_cons_succ, i64_w, i32_w]
    rfl
   refine pure_ (i := 5) (N := some 51) (v := ?_) (a' := ?_) #[true, true, true, false, true, true, false, false, false, false, false, false, false, false, false, false, false] rfl rfl (any_of HT_.out (by kernel_rfl)) (fun _ _ _ h => h) (Or.inl ⟨by rfl, ?_⟩) ?_ ?_
   rotate_left
   ·intro w'
    go_simp
    with_reducible rfl
   rotate_left
   ·simp only [Act.put, List.setIfInBounds_toArray, List.set_cons_zero, List.set_cons_succ, i64_w, i32_w]
    rfl
   refine pure_ (i := 7) (N := some 53) (v := ?_) (a' := ?_) #[true, true, true, false, true, true, false, true, false, false, false, false, false, false, false, false, false] rfl rfl (any_of HT_.out (by kernel_rfl)) (fun _ _ _ h => h) (Or.inl ⟨by rfl, ?_⟩) ?_ ?_
   rotate_left
   ·intro w'
    go_simp
    with_reducible rfl
   rotate_left
   ·simp only [Act.put, List.setIfInBounds_toArray, List.set_cons_zero, List.set_cons_succ, i64_w, i32_w]
    rfl
   refine pure_ (i := 8) (N := some 54) (v := ?_) (a' := ?_) #[true, true, true, false, true, true, false, true, true, false, false, false, false, false, false, false, false] rfl rfl (any_of HT_.out (by kernel_rfl)) (fun _ _ _ h => h) (Or.inl ⟨by rfl, ?_⟩) ?_ ?_
   rotate_left
   ·intro w'
    go_simp
    with_reducible rfl
   rotate_left
   ·simp only [Act.put, List.setIfInBounds_toArray, List.set_cons_zero, List.set_cons_succ, i64_w, i32_w]
    rfl
   refine pure_ (i := 10) (N := some 56) (v := ?_) (a' := ?_) #[true, true, true, false, true, true, false, true, true, false, true, false, false, false, false, false, false] rfl rfl (any_of HT_.out (by kernel_rfl)) (fun _ _ _ h => h) (Or.inl ⟨by rfl, ?_⟩) ?_ ?_
   rotate_left
   ·intro w'
    go_simp
    with_reducible rfl
   rotate_left
   ·simp only [Act.put, List.setIfInBounds_toArray, List.set_cons_zero, List.set_cons_succ, i64_w, i32_w]
    rfl
   refine take_ (i := 3) (N := some 49) (v := ?_) (a' := ?_) #[true, true, true, true, true, true, false, true, true, false, true, false, false, false, false, false, false] rfl rfl (take_ofW HT_.out HW_.out (by kernel_rfl)) (fun _ _ _ h => h) (Or.inl ⟨by rfl, ?_⟩) hHeld ?_ ?_
   rotate_left
   ·rintro w' ⟨s0, s1, s2⟩
    go_simp
    with_reducible rfl
   rotate_left
   ·simp only [Act.put, List.setIfInBounds_toArray, List.set_cons_zero, List.set_cons_succ, i64_w, i32_w]
    rfl
   refine take_ (i := 6) (N := some 52) (v := ?_) (a' := ?_) #[true, true, true, true, true, true, true, true, true, false, true, false, false, false, false, false, false] rfl rfl (take_ofW HT_.out HW_.out (by kernel_rfl)) (fun _ _ _ h => h) (Or.inl ⟨by rfl, ?_⟩) hHeld ?_ ?_
   rotate_left
   ·rintro w' ⟨s0, s1, s2⟩
    go_simp
    with_reducible rfl
   rotate_left
   ·simp only [Act.put, List.setIfInBounds_toArray, List.set_cons_zero, List.set_cons_succ, i64_w, i32_w]
    rfl
   refine take_ (i := 9) (N := some 55) (v := ?_) (a' := ?_) #[true, true, true, true, true, true, true, true, true, true, true, false, false, false, false, false, false] rfl rfl (take_ofW HT_.out HW_.out (by kernel_rfl)) (fun _ _ _ h => h) (Or.inl ⟨by rfl, ?_⟩) hHeld ?_ ?_
   rotate_left
   ·rintro w' ⟨s0, s1, s2⟩
    go_simp
    with_reducible rfl
   rotate_left
   ·simp only [Act.put, List.setIfInBounds_toArray, List.set_cons_zero, List.set_cons_succ, i64_w, i32_w]
    rfl
   refine take_ (i := 11) (N := some 57) (v := ?_) (a' := ?_) #[true, true, true, true, true, true, true, true, true, true, true, true, false, false, false, false, false] rfl rfl (take_ofW HT_.out HW_.out (by kernel_rfl)) (fun _ _ _ h => h) (Or.inl ⟨by rfl, ?_⟩) hHeld ?_ ?_
   rotate_left
   ·rintro w' ⟨s0, s1, s2⟩
    go_simp
    with_reducible rfl
   rotate_left
   ·simp only [Act.put, List.setIfInBounds_toArray, List.set_cons_zero, List.set_cons_succ, i64_w, i32_w]
    rfl
   refine pure_ (i := 12) (N := some 58) (v := ?_) (a' := ?_) #[true, true, true, true, true, true, true, true, true, true, true, true, true, false, false, false, false] rfl rfl (any_of HT_.out (by kernel_rfl)) (fun _ _ _ h => h) (Or.inl ⟨by rfl, ?_⟩) ?_ ?_
   rotate_left
   ·intro w'
    go_simp
    with_reducible rfl
   rotate_left
   ·simp only [Act.put, List.setIfInBounds_toArray, List.set_cons_zero, List.set_cons_succ, i64_w, i32_w]
    rfl
   refine pure_ (i := 13) (N := some 59) (v := ?_) (a' := ?_) #[true, true, true, true, true, true, true, true, true, true, true, true, true, true, false, false, false] rfl rfl (any_of HT_.out (by kernel_rfl)) (fun _ _ _ h => h) (Or.inl ⟨by rfl, ?_⟩) ?_ ?_
   rotate_left
   ·intro w'
    go_simp
    with_reducible rfl
   rotate_left
   ·simp only [Act.put, List.setIfInBounds_toArray, List.set_cons_zero, List.set_cons_succ, i64_w, i32_w]
    rfl
   refine last_ (i := 14) (N := some 60) #[true, true, true, true, true, true, true, true, true, true, true, true, true, true, true, false, false] rfl rfl (one_of HT_.out (by kernel_rfl)) (by decide) (fun K hK => ?_)
   refine value_ (w1 := ?_) (v := ?_) (by rfl) rfl ?_ ?_
   rotate_left 2
   ·go_simp
    constructor
    ·rfl
    ·rfl
   refine hK.out _ _ ?_
   clear hK K
   refine norm_ (a' := ?_) ?_ ?_
   rotate_left
   ·show Act.put _ (some 60) _ = _
    simp only [Act.put, List.setIfInBounds_toArray, List.set_cons_zero, List.set_cons_succ, i64_w, i32_w]
    rfl
   refine last_ (i := 15) (N := some 61) #[true, true, true, true, true, true, true, true, true, true, true, true, true, true, true, true, false] rfl rfl (one_of HT_.out (by kernel_rfl)) (by decide) (fun K hK => ?_)
   refine Kd.R_append_step k64 (w0 := w3) w3.heap.size (by rfl) (.tmp 46) (.tmp 60) 39 64 (.agg #[(.int .i64 0), (.int .i64 0), (.int .i64 0), (.int .i64 0)]) 32 rfl Try.underlying39 info64r rfl (by decide) (by omega) (.slice Aj (planTo l R.2.1 k).1.length cj) (planTo l R.2.1 k).1 (⟨(tn : Int), (rd_T43 l k).f0, rd (planTo l R.2.1 k).2 tn, wrap64 (rd (planTo l R.2.1 k).2 tn + (rd_T43 l k).f2)⟩ : S64) [.int .i64 (tn : Int), .int .i64 (rd_T43 l k).f0, .int .i64 (rd (planTo l R.2.1 k).2 tn), .int .i64 (wrap64 (rd (planTo l R.2.1 k).2 tn + (rd_T43 l k).f2))] (fun j => j ≠ ga) (fun _ => False) rfl rfl ?aP (fun _ hk => hk.elim) ?aF ?aO ?aB ?aS ?aL ?_
   case aP => exact k64_mkM _ _ _ (⟨(tn : Int), (rd_T43 l k).f0, rd (planTo l R.2.1 k).2 tn, wrap64 (rd (planTo l R.2.1 k).2 tn + (rd_T43 l k).f2)⟩ : S64)
   case aF => exact (fun j hj => by have := blk_lt AB.out; omega)
   case aO => exact RO.out
   case aB => exact HBr.out
   case aS => exact HBr.out.size
   case aL => rw [LK.out.2]; omega
   intro v1 wap ho hb hg hat
   have nHBr_ := Aside0.mk hb
   have nAB_ := Aside0.mk (blk_grown AB.out hg (Kd.R_ne RO.out AB.out (by decide)))
   have nRO_ := Aside0.mk ho
   have nBX_ := Aside0.mk (blk_grown BX.out hg (Kd.R_ne RO.out BX.out (by decide)))
   clear hb hg ho hat
   clear HBr AB RO BX
   have HBr := nHBr_
   have AB := nAB_
   have RO := nRO_
   have BX := nBX_
   clear nHBr_ nAB_ nRO_ nBX_
   refine hK.out _ _ ?_
   clear hK K
   refine norm_ (a' := ?_) ?_ ?_
   rotate_left
   ·show Act.put _ (some 61) _ = _
    simp only [Act.put, List.setIfInBounds_toArray, List.set_cons_zero, List.set_cons_succ, i64_w, i32_w]
    rfl
   refine pure_ (i := 16) (N := some 8) (v := ?_) (a' := ?_) #[true, true, true, true, true, true, true, true, true, true, true, true, true, true, true, true, true] rfl rfl (any_of HT_.out (by kernel_rfl)) (fun _ _ _ h => h) (Or.inl ⟨by rfl, ?_⟩) ?_ ?_
   rotate_left
   ·intro w'
    go_simp
    with_reducible rfl
   rotate_left
   ·simp only [Act.put, List.setIfInBounds_toArray, List.set_cons_zero, List.set_cons_succ, i64_w, i32_w]
    rfl
   refine done_ (done_of HT_.out (by kernel_rfl)) ?_
   go_wp2_with fail
   have nHBr_ := Aside0.mk (below_drew1 HBr.out)
   have nAB_ := Aside0.mk (blk_drew AB.out)
   have nRO_ := Aside0.mk (Kd.R_drew RO.out)
   have nBX_ := Aside0.mk (blk_drew BX.out)
   clear HBr AB RO BX
   have HBr := nHBr_
   have AB := nAB_
   have RO := nRO_
   have BX := nBX_
   clear nHBr_ nAB_ nRO_ nBX_
   refine start_ (n := 8) (S := fun w' => w'.cell? ⟨ga, tn, none⟩ = some (.int .i64 (rd (planTo l R.2.1 k).2 tn)) ∧ w'.cell? ⟨bx, 2, none⟩ = some (.int .i64 (rd_T43 l k).f2)) (ds := [7]) #[false, false, false, false, false, false, false, false] (by kernel_rfl) rfl rfl ⟨(ints_cellT AB.out tn (by have := LK.out.1; omega)), ((blk_cell BX.out 2).trans rfl)⟩ (fun hHeld => ?_)
   refine with_tabW X23.tab15 X23.bits15 (fun HT_ HW_ => ?_)
   generalize wap.drew = wd2 at HBr AB RO BX hHeld ⊢
   refine pure_ (i := 0) (N := some 62) (v := ?_) (a' := ?_) #[true, false, false, false, false, false, false, false] rfl rfl (any_of HT_.out (by kernel_rfl)) (fun _ _ _ h => h) (Or.inl ⟨by rfl, ?_⟩) ?_ ?_
   rotate_left
   ·intro w'
    go_simp
    with_reducible rfl
   rotate_left
   ·simp only [Act.put, List.setIfInBounds_toArray, List.set_cons_zero, List.set_cons_succ, i64_w, i32_w]
    rfl
   refine pure_ (i := 1) (N := some 63) (v := ?_) (a' := ?_) #[true, true, false, false, false, false, false, false] rfl rfl (any_of HT_.out (by kernel_rfl)) (fun _ _ _ h => h) (Or.inl ⟨by rfl, ?_⟩) ?_ ?_
   rotate_left
   ·intro w'
    go_simp
    with_reducible rfl
   rotate_left
   ·simp only [Act.put, List.setIfInBounds_toArray, List.set_cons_zero, List.set_cons_succ, i64_w, i32_w]
    rfl
   refine pure_ (i := 3) (N := some 65) (v := ?_) (a' := ?_) #[true, true, false, true, false, false, false, false] rfl rfl (any_of HT_.out (by kernel_rfl)) (fun _ _ _ h => h) (Or.inl ⟨by rfl, ?_⟩) ?_ ?_
   rotate_left
   ·intro w'
    go_simp
    with_reducible rfl
   rotate_left
   ·simp only [Act.put, List.setIfInBounds_toArray, List.set_cons_zero, List.set_cons_succ, i64_w, i32_w]
    rfl
   refine take_ (i := 2) (N := some 64) (v := ?_) (a' := ?_) #[true, true, true, true, false, false, false, false] rfl rfl (take_ofW HT_.out HW_.out (by kernel_rfl)) (fun _ _ _ h => h) (Or.inl ⟨by rfl, ?_⟩) hHeld ?_ ?_
   rotate_left
   ·rintro w' ⟨s0, s1⟩
    go_simp
    with_reducible rfl
   rotate_left
   ·simp only [Act.put, List.setIfInBounds_toArray, List.set_cons_zero, List.set_cons_succ, i64_w, i32_w]
    rfl
   refine take_ (i := 4) (N := some 66) (v := ?_) (a' := ?_) #[true, true, true, true, true, false, false, false] rfl rfl (take_ofW HT_.out HW_.out (by kernel_rfl)) (fun _ _ _ h => h) (Or.inl ⟨by rfl, ?_⟩) hHeld ?_ ?_
   rotate_left
   ·rintro w' ⟨s0, s1⟩
    go_simp
    with_reducible rfl
   rotate_left
   ·simp only [Act.put, List.setIfInBounds_toArray, List.set_cons_zero, List.set_cons_succ, i64_w, i32_w]
    rfl
   refine pure_ (i := 5) (N := some 67) (v := ?_) (a' := ?_) #[true, true, true, true, true, true, false, false] rfl rfl (any_of HT_.out (by kernel_rfl)) (fun _ _ _ h => h) (Or.inl ⟨by rfl, ?_⟩) ?_ ?_
   rotate_left
   ·intro w'
    go_simp
    with_reducible rfl
   rotate_left
   ·simp only [Act.put, List.setIfInBounds_toArray, List.set_cons_zero, List.set_cons_succ, i64_w, i32_w]
    rfl
   refine pure_ (i := 6) (N := some 68) (v := ?_) (a' := ?_) #[true, true, true, true, true, true, true, false] rfl rfl (any_of HT_.out (by kernel_rfl)) (fun _ _ _ h => h) (Or.inl ⟨by rfl, ?_⟩) ?_ ?_
   rotate_left
   ·intro w'
    go_simp
    with_reducible rfl
   rotate_left
   ·simp only [Act.put, List.setIfInBounds_toArray, List.set_cons_zero, List.set_cons_succ, i64_w, i32_w]
    rfl
   refine last_ (i := 7) (N := none) #[true, true, true, true, true, true, true, true] rfl rfl (one_of HT_.out (by kernel_rfl)) (by decide) (fun K hK => ?_)
   refine skip_ (w1 := wd2.setCells ga tn [.int .i64 (wrap64 (rd (planTo l R.2.1 k).2 tn + (rd_T43 l k).f2))]) (by rfl) rfl (run_store_oper rfl ?_) ?_
   ·exact run_store_run (P := Try.prog) (w := wd2) (g := ga) (o := tn) 3 (.int .i64 (wrap64 (rd (planTo l R.2.1 k).2 tn + (rd_T43 l k).f2))) [.int .i64 (wrap64 (rd (planTo l R.2.1 k).2 tn + (rd_T43 l k).f2))] AB.out rfl (by kernel_rfl) (by rw [List.size_toArray, List.length_map, LK.out.1]; simp; omega) (by intro q hq; simp at hq; subst hq; rfl)
   have nAB_ := Aside0.mk (ints_setsT AB.out tn (wrap64 (rd (planTo l R.2.1 k).2 tn + (rd_T43 l k).f2)))
   have nRO_ := Aside0.mk (Kd.R_step RO.out (fun j hj _ => setCells_far (w := wd2) (g := ga) [.int .i64 (wrap64 (rd (planTo l R.2.1 k).2 tn + (rd_T43 l k).f2))] tn j hj))
   have nHBr_ := Aside0.mk ((Frm.sets (S := fun j => j = ga) (g := ga) (Frm.refl _ wd2) rfl tn [.int .i64 (wrap64 (rd (planTo l R.2.1 k).2 tn + (rd_T43 l k).f2))]).below HBr.out (fun j hj => (show j = ga from hj) ▸ NGA2.out))
   clear BX
   clear HBr AB RO
   have HBr := nHBr_
   have AB := nAB_
   have RO := nRO_
   clear nHBr_ nAB_ nRO_
   generalize wd2.setCells ga tn [.int .i64 (wrap64 (rd (planTo l R.2.1 k).2 tn + (rd_T43 l k).f2))] = wu at HBr AB RO ⊢
   refine hK.out _ _ ?_
   clear hK K
   refine done_ (done_of HT_.out (by kernel_rfl)) ?_
   try go_wp2
   exact ⟨⟨k + 1, hlt, rfl, HBr.out, by rw [HE.out]; exact AB.out, by rw [HE.out]; exact RO.out⟩, by simp [intOf]; omega⟩
  ·obtain rfl : k = l.length := by omega
   have hc_ := HCP.out
   unfold pC at hc_
   have p7 := blk_cell hc_ 7
   simp only [List.getElem?_toArray, List.getElem?_cons_zero, List.getElem?_cons_succ] at p7
   have P7 := Aside0.mk p7
   clear hc_ p7
   go_wp2_with fail
   have nHBr_ := Aside0.mk (below_drew1 HBr.out)
   have nAB_ := Aside0.mk (blk_drew AB.out)
   have nRO_ := Aside0.mk (Kd.R_drew RO.out)
   clear HBr AB RO
   have HBr := nHBr_
   have AB := nAB_
   have RO := nRO_
   clear nHBr_ nAB_ nRO_
   refine start_ (n := 6) (S := fun w' => w'.cell? ⟨P, 7, none⟩ = some (.int .i64 R.2.2)) (ds := []) #[false, false, false, false, false, false] (by kernel_rfl) rfl rfl (((HBr.out.cell (World.block_lt_of_cell? w3 _ P7.out)).trans P7.out)) (fun hHeld => ?_)
   refine with_tabW X23.tab17 X23.bits17 (fun HT_ HW_ => ?_)
   generalize wr.drew = wd at HBr AB RO hHeld ⊢
   refine pure_ (i := 0) (N := some 70) (v := ?_) (a' := ?_) #[true, false, false, false, false, false] rfl rfl (any_of HT_.out (by kernel_rfl)) (fun _ _ _ h => h) (Or.inl ⟨by rfl, ?_⟩) ?_ ?_
   rotate_left
   ·intro w'
    go_simp
    with_reducible rfl
   rotate_left
   ·simp only [Act.put, List.setIfInBounds_toArray, List.set_cons_zero, List.set_cons_succ, i64_w, i32_w]
    rfl
   refine pure_ (i := 1) (N := some 71) (v := ?_) (a' := ?_) #[true, true, false, false, false, false] rfl rfl (any_of HT_.out (by kernel_rfl)) (fun _ _ _ h => h) (Or.inl ⟨by rfl, ?_⟩) ?_ ?_
   rotate_left
   ·intro w'
    go_simp
    with_reducible rfl
   rotate_left
   ·simp only [Act.put, List.setIfInBounds_toArray, List.set_cons_zero, List.set_cons_succ, i64_w, i32_w]
    rfl
   refine pure_ (i := 3) (N := some 4) (v := ?_) (a' := ?_) #[true, true, false, true, false, false] rfl rfl (any_of HT_.out (by kernel_rfl)) (fun _ _ _ h => h) (Or.inl ⟨by rfl, ?_⟩) ?_ ?_
   rotate_left
   ·intro w'
    go_simp
    with_reducible rfl
   rotate_left
   ·simp only [Act.put, List.setIfInBounds_toArray, List.set_cons_zero, List.set_cons_succ, i64_w, i32_w]
    rfl
   refine take_ (i := 2) (N := some 72) (v := ?_) (a' := ?_) #[true, true, true, true, false, false] rfl rfl (take_ofW HT_.out HW_.out (by kernel_rfl)) (fun _ _ _ h => h) (Or.inl ⟨by rfl, ?_⟩) hHeld ?_ ?_
   rotate_left
   ·intro w' s0
    go_simp
    with_reducible rfl
   rotate_left
   ·simp only [Act.put, List.setIfInBounds_toArray, List.set_cons_zero, List.set_cons_succ, i64_w, i32_w]
    rfl
   refine pure_ (i := 4) (N := some 5) (v := ?_) (a' := ?_) #[true, true, true, true, true, false] rfl rfl (any_of HT_.out (by kernel_rfl)) (fun _ _ _ h => h) (Or.inl ⟨by rfl, ?_⟩) ?_ ?_
   rotate_left
   ·intro w'
    go_simp
    with_reducible rfl
   rotate_left
   ·simp only [Act.put, List.setIfInBounds_toArray, List.set_cons_zero, List.set_cons_succ, i64_w, i32_w]
    rfl
   refine pure_ (i := 5) (N := some 6) (v := ?_) (a' := ?_) #[true, true, true, true, true, true] rfl rfl (any_of HT_.out (by kernel_rfl)) (fun _ _ _ h => h) (Or.inl ⟨by rfl, ?_⟩) ?_ ?_
   rotate_left
   ·intro w'
    go_simp
    with_reducible rfl
   rotate_left
   ·simp only [Act.put, List.setIfInBounds_toArray, List.set_cons_zero, List.set_cons_succ, i64_w, i32_w]
    rfl
   refine done_ (done_of HT_.out (by kernel_rfl)) ?_
   go_wp2
   go_ret3
   exact ⟨_, by first | rfl | (simp; done), Kd.R_lower (Kd.R_mono RO.out (fun _ _ => trivial)) HBW.out.size, below_step HBW.out HBr.out⟩
def key43 (x : S43) : Int × Int × Int := (x.f0, x.f1, x.f2)
theorem secs_of {l0 : List S43} (h : l0.map key43 = [(1, 3, 10), (2, 1, 15)]) : l0 = [⟨1, 3, 10⟩, ⟨2, 1, 15⟩] := by
 match l0, h with
 | [⟨a, b, c⟩, ⟨d, e, f⟩], h =>
  simp only [List.map_cons, List.map_nil, key43, List.cons.injEq, Prod.mk.injEq, and_true] at h
  obtain ⟨⟨rfl, rfl, rfl⟩, rfl, rfl, rfl⟩ := h
  rfl
def rescue_Plan.f (l0 : List S43) (a1 : Int) : Option (List S64 × Int × Int) := if a1 = 2 ∧ l0.map key43 = [(1, 3, 10), (2, 1, 15)] then some ([⟨1, 1, 0, 10⟩, ⟨2, 2, 0, 15⟩], 15, 0) else none
theorem plan_R : tryV [⟨1, 3, 10⟩, ⟨2, 1, 15⟩] 2 0 zR (List.replicate 2 0, [], 0) = ([2, 2], [1, 2], 15) := by decide +kernel
theorem plan_J : (planTo [⟨1, 3, 10⟩, ⟨2, 1, 15⟩] [1, 2] 2).1 = [⟨1, 1, 0, 10⟩, ⟨2, 2, 0, 15⟩] := by kernel_rfl
theorem rescue_Plan.calls (A0 : Option Addr) (c0 : Nat) (l0 : List S43) (a1 : Int) (r1 : List S64) (r2 : Int) (r3 : Int) (w : World) (hr0 : Kd.C k43 w A0 l0.length l0) (hc0 : l0.length ≤ c0) (h : rescue_Plan.f l0 a1 = some (r1, r2, r3)) :
  Calls Try.prog 23 #[.slice A0 l0.length c0, .int .i64 a1] w fun e w' => ∃ v0_ : Value, e = .returned (.tuple #[v0_, .int .i64 r2, .int .i64 r3]) ∧ Kd.R k64 64 w' w.heap.size (fun _ => True) v0_ r1 ∧ Below w.heap.size w w' := by
 unfold rescue_Plan.f at h
 by_cases hh : a1 = 2 ∧ l0.map key43 = [(1, 3, 10), (2, 1, 15)]
 ·rw [if_pos hh] at h
  obtain ⟨rfl, h2⟩ := hh
  obtain rfl := secs_of h2
  simp only [Option.some.injEq, Prod.mk.injEq] at h
  obtain ⟨rfl, rfl, rfl⟩ := h
  obtain ⟨ad, rfl, _⟩ := hr0.2.2 (by decide)
  have H := plan_calls ad c0 [⟨1, 3, 10⟩, ⟨2, 1, 15⟩] w hr0 hc0 (by decide) (by decide) (fun j hj => ?hz) ([2, 2], [1, 2], 15) plan_R rfl (fun j hj => ?hb)
  case hz =>
   have hj : j < 2 := hj
   obtain rfl | rfl : j = 0 ∨ j = 1 := by omega
   all_goals decide
  case hb =>
   have hj : j < 2 := hj
   obtain rfl | rfl : j = 0 ∨ j = 1 := by omega
   all_goals decide
  have e : (planTo [⟨1, 3, 10⟩, ⟨2, 1, 15⟩] ([2, 2], ([1, 2] : List Int), (15 : Int)).2.1 ([⟨1, 3, 10⟩, ⟨2, 1, 15⟩] : List S43).length).1 = [⟨1, 1, 0, 10⟩, ⟨2, 2, 0, 15⟩] := plan_J
  rw [e] at H
  exact H
 ·rw [if_neg hh] at h
  cases h

end Go.Proofs.Yticfgecicmgpeaa.A
