-- PRINTED by print.py (a twelfth state) out of the translation. Not trusted: Lean checks it.
import Derived.Test.YticfgecicmgpeaaAx0
namespace Go.Proofs.Yticfgecicmgpeaa.A
open Go.RowKit Go.Proofs.YticfgecicmgpeaaW.PrintWords Go.Proofs.YticfgecicmgpeaaW.PrintLast Go.Proofs.YticfgecicmgpeaaW.PrintMore
attribute [local go_sem] max2_int min2_int max_two min_two max_three min_three max_four min_four   -- for this text's walks alone
set_option linter.unusedVariables false
set_option linter.unusedSimpArgs false

/-! ### route_task: function 29 -/
def hasRun (x : Int) (t : S34) : Bool := t.f0 == x
def runAt (l : List S34) (x : Int) : Nat := l.findIdx (hasRun x)
theorem rdT_get {l : List S34} {j : Nat} (h : j < l.length) : rd_T34 l j = l[j] := by simp [rd_T34, List.getElem?_eq_getElem h]
theorem run_before {l : List S34} {x : Int} {j : Nat} (h : j < runAt l x) : ((rd_T34 l j).f0 == x) = false := by
 have hl : j < l.length := Nat.lt_of_lt_of_le h List.findIdx_le_length
 rw [rdT_get hl]
 exact Bool.not_eq_true _ ▸ List.not_of_lt_findIdx h
theorem run_here {l : List S34} {x : Int} (h : runAt l x < l.length) : ((rd_T34 l (runAt l x : Nat)).f0 == x) = true := by
 rw [rdT_get h]
 exact List.findIdx_getElem (w := h)
def taskV (l : List S34) (x : Int) : Int := if runAt l x < l.length then (runAt l x : Int) else -1
theorem heap_new {W : World} {o : Obj} {n : Nat} (h : W.heap.size = n) : (W.alloc o).heap[n]? = some o := h ▸ heap_alloc_new W o
theorem cell?_alloc_lt {w : World} {g o : Nat} {ob : Obj} (h : g < w.heap.size) : (w.alloc ob).cell? ⟨g, o, none⟩ = w.cell? ⟨g, o, none⟩ := (Below.refl w.heap.size w |>.alloc (Nat.le_refl _) ob).cell (p := ⟨g, o, none⟩) h
set_option maxHeartbeats 400000 in
theorem clo43 (f0 f1 : Int) (f2 : Bool) (v3 : Value) (x : Int) (g : Nat) (b : Bool) (w : World) (h0 : w.cell? ⟨g, 0, none⟩ = some (.int .i64 x)) (hb : (f0 == x) = b) :
  Calls Try.prog 43 #[.agg #[.int .i64 f0, .int .i64 f1, .bool f2, v3], .pointer (some ⟨g, 0, none⟩)] w fun e w' => e = .returned (.bool b) ∧ Below w.heap.size w w' := by
 have hu34 := Try.underlying34
 have hbel : Below w.heap.size w w := Below.refl _ _
 have z0 : g < w.heap.size := World.block_lt_of_cell? w _ h0
 go_enter Try.func43, Try.ntmps43
 go_wp2
 go_ret
 exact ⟨by first | rfl | (simp; done) | (simp [hb]; done), by repeat (first | (with_reducible first | exact hbel | apply below_alloc))⟩
set_option maxHeartbeats 2000000 in
set_option maxRecDepth 100000 in
theorem idx42 (A : Option Addr) (c : Nat) (l : List S34) (x : Int) (g : Nat) (w : World) (hr : Kd.C k34 w A l.length l) (hc : l.length ≤ c) (h0 : w.cell? ⟨g, 0, none⟩ = some (.int .i64 x)) :
  Calls Try.prog 42 #[.slice A l.length c, .func (.func 43) #[] #[.pointer (some ⟨g, 0, none⟩)]] w fun e w' => e = .returned (.int .i64 (taskV l x)) ∧ Below w.heap.size w w' := by
 have hu34 := Try.underlying34
 have hl : l.length ≤ 9223372036854775807 := hr.2.1
 have HR := Aside0.mk hr
 have HC := Aside0.mk hc
 have X0 := Aside0.mk h0
 have hj : runAt l x ≤ l.length := List.findIdx_le_length
 clear hr hc h0
 go_enter Try.func42, Try.ntmps42
 go_wp2_with fail
 go_loopw [8] (fun v8 wr => ∃ k : Nat, k ≤ runAt l x ∧ v8 = .int .i64 k ∧ Aside0 (Below w.heap.size w wr)) (fun v8 _ => l.length - (intOf v8).toNat)
 case atStart => exact ⟨0, Nat.zero_le _, rfl, ⟨Below.refl _ _⟩⟩
 case round =>
  obtain ⟨k, hk, rfl, HB⟩ := hrel
  by_cases hlt : k < l.length
  ·obtain ⟨ad, A3, c3, rfl, x0, x1, x2, x3, hlc, hin⟩ := at_T34 HR.out (k : Int) (by omega) (by omega)
   rw [Int.toNat_natCast] at x0 x1 x2 x3
   replace x0 := (HB.out.cell (World.block_lt_of_cell? w _ x0)).trans x0
   replace x1 := (HB.out.cell (World.block_lt_of_cell? w _ x1)).trans x1
   replace x2 := (HB.out.cell (World.block_lt_of_cell? w _ x2)).trans x2
   replace x3 := (HB.out.cell (World.block_lt_of_cell? w _ x3)).trans x3
   have g0 := (HB.out.cell (World.block_lt_of_cell? w _ X0.out)).trans X0.out
   clear hin hlc
   by_cases hkj : k < runAt l x
   ·have C := Aside0.mk (run_before hkj)
    go_wp2_with (go_at_call 43; (with_reducible refine (clo43 _ _ _ _ x g false _ g0 C.out).mono ?_); rintro e w2 ⟨rfl, hb2⟩; have HB2 := Aside0.mk (below_step HB.out hb2); clear hb2)
    exact ⟨⟨k + 1, hkj, rfl, HB2⟩, by simp [intOf]; omega⟩
   ·obtain rfl : k = runAt l x := by omega
    have C := Aside0.mk (run_here hlt)
    have V := Aside0.mk (show taskV l x = (runAt l x : Int) from if_pos hlt)
    go_wp2_with (go_at_call 43; (with_reducible refine (clo43 _ _ _ _ x g true _ g0 C.out).mono ?_); rintro e w2 ⟨rfl, hb2⟩; have HB2 := Aside0.mk (below_step HB.out hb2); clear hb2)
    go_ret
    exact ⟨by rw [V.out]; first | rfl | (simp; done), HB2.out⟩
  ·obtain rfl : k = l.length := by omega
   have V := Aside0.mk (show taskV l x = -1 from if_neg (by omega))
   clear hlt hk
   go_wp2
   go_ret
   exact ⟨by rw [V.out]; first | rfl | (simp; done), HB.out⟩
def route_task.f (l0 : List S34) (a1 : Int) : Option Int := some (taskV l0 a1)
set_option maxHeartbeats 400000 in
theorem route_task.calls (A0 : Option Addr) (c0 : Nat) (l0 : List (S34)) (a1 : Int) (r : Int) (w : World) (hr0 : Kd.C k34 w A0 l0.length l0) (hc0 : l0.length ≤ c0) (h : route_task.f l0 a1 = some r) :
  Calls Try.prog 29 #[.slice A0 l0.length c0, .int .i64 a1] w fun e w' => e = .returned (.int .i64 r) ∧ Below w.heap.size w w' := by
 obtain rfl := Option.some.inj h
 have HR := Aside0.mk hr0
 have HC := Aside0.mk hc0
 have hbel : Below w.heap.size w w := Below.refl _ _
 clear hr0 hc0 h
 go_enter Try.func29, Try.ntmps29
 go_wp2_with fail
 refine (idx42 A0 c0 l0 a1 w.heap.size _ (Kd.C_alloc HR.out _) HC.out ?s1).mono ?_
 case s1 => exact (blk_cell (heap_new (by simp)) 0).trans rfl
 rintro e w' ⟨rfl, hb⟩
 have HB := Aside0.mk (below_step (below_alloc hbel _) hb)
 clear hb
 go_wp2_with fail
 go_ret
 exact ⟨rfl, HB.out⟩

end Go.Proofs.Yticfgecicmgpeaa.A
