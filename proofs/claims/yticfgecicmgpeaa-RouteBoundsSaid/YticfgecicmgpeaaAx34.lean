-- PRINTED by print.py (a twelfth state) out of the translation. Not trusted: Lean checks it.
import Derived.Test.YticfgecicmgpeaaAx0
import Derived.Test.YticfgecicmgpeaaAx6
import Derived.Test.YticfgecicmgpeaaAx7
import Derived.Test.YticfgecicmgpeaaAx8
import Derived.Test.YticfgecicmgpeaaAx9
import Derived.Test.YticfgecicmgpeaaAx26
import Derived.Test.YticfgecicmgpeaaAx28
import Derived.Test.YticfgecicmgpeaaAx32
namespace Go.Proofs.Yticfgecicmgpeaa.A
open Go.RowKit Go.Proofs.YticfgecicmgpeaaW.PrintWords Go.Proofs.YticfgecicmgpeaaW.PrintLast Go.Proofs.YticfgecicmgpeaaW.PrintMore
attribute [local go_sem] max2_int min2_int max_two min_two max_three min_three max_four min_four   -- for this text's walks alone
set_option linter.unusedVariables false
set_option linter.unusedSimpArgs false

/-! ### skiarealaw47_alive: function 17 -/
def alv_t3 : List S34 := [⟨1, 300, false, []⟩, ⟨2, 200, false, []⟩, ⟨3, 100, false, []⟩]
set_option maxHeartbeats 1000000 in
theorem three_calls (w : World) : Calls Try.prog 28 #[] w fun e w' => ∃ g : Nat, e = .returned (.slice (some ⟨g, 0, none⟩) 3 3) ∧ w.heap.size ≤ g ∧ w'.heap[g]? = some (.cells #[.int .i64 1, .int .i64 300, .bool false, .slice none 0 0, .int .i64 2, .int .i64 200, .bool false, .slice none 0 0, .int .i64 3, .int .i64 100, .bool false, .slice none 0 0] 34) ∧ Below w.heap.size w w' := by
 have hu34 := Try.underlying34
 go_enter Try.func28, Try.ntmps28
 go_wp2
 go_ret
 exact ⟨w.heap.size, by first | rfl | (simp; done), Nat.le_refl _, heap_alloc_new w _, below_alloc (Below.refl _ _) _⟩
def alv_aL : List S34 := [⟨1, 300, false, [2]⟩, ⟨2, 200, false, []⟩, ⟨3, 100, false, []⟩]
def alv_aW : List S34 := [⟨1, 300, true, []⟩, ⟨2, 200, true, []⟩, ⟨3, 100, false, []⟩]
def alv_aP : List S37 := [⟨1, 1, 0, 300⟩, ⟨2, 2, 0, 200⟩, ⟨2, 3, 200, 300⟩]
theorem alv_v_r1 : route_Right.f 30 alv_aL [false, false] = some 0 := by decide +kernel
theorem alv_v_r2 : route_Right.f 30 alv_aL [] = some 8 := by decide +kernel
theorem alv_v_r3 : route_Right.f 30 alv_aW [false, false] = some 13 := by decide +kernel
theorem alv_v_v1 : route_Valid.f 40 alv_t3 [false, false] alv_aP = some true := by decide +kernel
theorem alv_v_v2 : route_Valid.f 40 alv_aL [false, false] alv_aP = some false := by decide +kernel
theorem alv_v_v3 : route_Valid.f 40 alv_t3 [false, false] (alv_aP.take 2) = some false := by decide +kernel
theorem alv_v_e : route_End.f alv_aP = some 300 := by decide +kernel
theorem alv_v_l1 : route_Least.f alv_t3 [false, false] = some 300 := by decide +kernel
theorem alv_v_l2 : route_Least.f alv_aL [false, false] = some 500 := by decide +kernel
theorem alv_v_l3 : route_Least.f alv_aW [false, true] = some 500 := by decide +kernel
theorem alv_v_l4 : route_Least.f [] [false, false] = some 0 := by decide +kernel
theorem alv_v_b : (bestV alv_aL [false, false]).length = 3 := by decide +kernel
theorem alv_c_L {W : World} {g gc : Nat} (h : W.heap[g]? = some (.cells #[.int .i64 1, .int .i64 300, .bool false, .slice (some ⟨gc, 0, none⟩) 1 1, .int .i64 2, .int .i64 200, .bool false, .slice none 0 0, .int .i64 3, .int .i64 100, .bool false, .slice none 0 0] 34)) (hc : W.heap[gc]? = some (.cells #[.int .i64 2] 3)) : Kd.C k34 W (some ⟨g, 0, none⟩) 3 alv_aL :=
 C_lit h alv_aL (Reps.c4 (k34_mk W ⟨1, 300, false, [2]⟩ (by decide) (C_ints [2] hc (by decide))) (Reps.c4 (k34_mk W ⟨2, 200, false, []⟩ (Nat.le_refl _) (Kd.C_nil _ _)) (Reps.c4 (k34_mk W ⟨3, 100, false, []⟩ (Nat.le_refl _) (Kd.C_nil _ _)) (Reps.none _ _)))) (by decide)
theorem alv_c_W {W : World} {g : Nat} (h : W.heap[g]? = some (.cells #[.int .i64 1, .int .i64 300, .bool true, .slice none 0 0, .int .i64 2, .int .i64 200, .bool true, .slice none 0 0, .int .i64 3, .int .i64 100, .bool false, .slice none 0 0] 34)) : Kd.C k34 W (some ⟨g, 0, none⟩) 3 alv_aW :=
 C_lit h alv_aW (Reps.c4 (k34_mk W ⟨1, 300, true, []⟩ (Nat.le_refl _) (Kd.C_nil _ _)) (Reps.c4 (k34_mk W ⟨2, 200, true, []⟩ (Nat.le_refl _) (Kd.C_nil _ _)) (Reps.c4 (k34_mk W ⟨3, 100, false, []⟩ (Nat.le_refl _) (Kd.C_nil _ _)) (Reps.none _ _)))) (by decide)
theorem alv_c_3 {W : World} {g : Nat} (h : W.heap[g]? = some (.cells #[.int .i64 1, .int .i64 300, .bool false, .slice none 0 0, .int .i64 2, .int .i64 200, .bool false, .slice none 0 0, .int .i64 3, .int .i64 100, .bool false, .slice none 0 0] 34)) : Kd.C k34 W (some ⟨g, 0, none⟩) 3 alv_t3 :=
 C_lit h alv_t3 (Reps.c4 (k34_mk W ⟨1, 300, false, []⟩ (Nat.le_refl _) (Kd.C_nil _ _)) (Reps.c4 (k34_mk W ⟨2, 200, false, []⟩ (Nat.le_refl _) (Kd.C_nil _ _)) (Reps.c4 (k34_mk W ⟨3, 100, false, []⟩ (Nat.le_refl _) (Kd.C_nil _ _)) (Reps.none _ _)))) (by decide)
theorem alv_c_2 {W : World} {g : Nat} {b1 b2 : Bool} (h : W.heap[g]? = some (.cells #[.bool b1, .bool b2] 4)) : Kd.C Kd.bool W (some ⟨g, 0, none⟩) 2 [b1, b2] :=
 C_lit h [b1, b2] ⟨rfl, fun j p hj => by
  rcases j with _ | _ | j
  ·simp at hj; subst hj; rfl
  ·simp at hj; subst hj; rfl
  ·simp at hj⟩ (by simp)
theorem alv_c_P {W : World} {g : Nat} (h : W.heap[g]? = some (.cells #[.int .i64 1, .int .i64 1, .int .i64 0, .int .i64 300, .int .i64 2, .int .i64 2, .int .i64 0, .int .i64 200, .int .i64 2, .int .i64 3, .int .i64 200, .int .i64 300] 37)) : Kd.C k37 W (some ⟨g, 0, none⟩) 3 alv_aP := C_flat alv_aP h (by decide)

def X17.T6 : Bool × List (List Nat × List Nat) := (true, [([], []), ([], []), ([0, 1], [0, 1]), ([2], [2]), ([3, 2], [3]), ([4], [4]), ([5, 4, 4], [4, 5]), ([6, 4], [4, 6]), ([4, 7], [4, 7]), ([8, 6], [8]), ([9], [9]), ([9], [9]), ([10, 11, 9, 9], [9, 10, 11]), ([12, 9], [9, 12]), ([9, 13], [9, 13]), ([14, 12], [14]), ([15, 15], [15]), ([15], [15]), ([15], [15]), ([16, 17, 18, 16, 15], [15, 16, 17, 18]), ([15, 19], [15, 19]), ([20, 19], [20]), ([21], [21]), ([21], [21]), ([21], [21]), ([22, 23, 24, 21, 21], [21, 22, 23, 24]), ([25, 21], [21, 25]), ([21, 26], [21, 26]), ([27, 25], [27]), ([28, 28], [28]), ([28], [28]), ([28], [28]), ([31, 28], [28, 31]), ([29, 30, 32, 29, 28], [28, 29, 30, 32]), ([33, 28], [28, 33]), ([28, 34], [28, 34]), ([35, 33], [35]), ([36], [36]), ([37, 36, 36], [36, 37]), ([38, 36], [36, 38]), ([36, 39], [36, 39]), ([40, 38], [40]), ([41, 41], [41]), ([41], [41]), ([42, 43, 42, 41], [41, 42, 43]), ([44, 41], [41, 44]), ([41, 45], [41, 45]), ([46, 44], [46]), ([47], [47]), ([47], [47]), ([48, 49, 47, 47], [47, 48, 49]), ([50, 47], [47, 50]), ([47, 51], [47, 51]), ([52, 50], [52]), ([53], [53]), ([53], [53]), ([54, 55, 53, 53], [53, 54, 55]), ([56, 53], [53, 56]), ([53, 57], [53, 57]), ([58, 56], [58]), ([59], [59]), ([60, 59, 59], [59, 60]), ([61, 59], [59, 61]), ([59, 62], [59, 62]), ([63, 61], [63]), ([64], [64]), ([64], [64]), ([65, 66, 64, 64], [64, 65, 66]), ([67, 64], [64, 67]), ([68, 64], [64, 68]), ([64, 69], [64, 69]), ([70, 67, 0, 1, 2, 3, 4, 5, 6, 7, 8, 9, 10, 11, 12, 13, 14, 15, 16, 17, 18, 19, 20, 21, 22, 23, 24, 25, 26, 27, 28, 29, 30, 31, 32, 33, 34, 35, 36, 37, 38, 39, 40, 41, 42, 43, 44, 45, 46, 47, 48, 49, 50, 51, 52, 53, 54, 55, 56, 57, 58, 59, 60, 61, 62, 63, 64, 65, 66, 67, 68, 69, 70], [70])])
def X17.B6 : List Nat := [0, 0, 3, 7, 15, 31, 63, 127, 255, 511, 1023, 1023, 4095, 8191, 16383, 32767, 65535, 65535, 65535, 524287, 1048575, 2097151, 4194303, 4194303, 4194303, 33554431, 67108863, 134217727, 268435455, 536870911, 536870911, 536870911, 2684354559, 8589934591, 17179869183, 34359738367, 68719476735, 137438953471, 274877906943, 549755813887, 1099511627775, 2199023255551, 4398046511103, 4398046511103, 17592186044415, 35184372088831, 70368744177663, 140737488355327, 281474976710655, 281474976710655, 1125899906842623, 2251799813685247, 4503599627370495, 9007199254740991, 18014398509481983, 18014398509481983, 72057594037927935, 144115188075855871, 288230376151711743, 576460752303423487, 1152921504606846975, 2305843009213693951, 4611686018427387903, 9223372036854775807, 18446744073709551615, 36893488147419103231, 36893488147419103231, 147573952589676412927, 295147905179352825855, 590295810358705651711, 1180591620717411303423, 2361183241434822606847]
theorem X17.tab6 : rtab .any (opsOf Try.f17 6) = X17.T6 := by kernel_rfl
theorem X17.bits6 : waitsOk X17.T6.2 X17.B6 = true := by kernel_rfl
set_option maxHeartbeats 4000000 in
set_option maxRecDepth 100000 in
theorem alive_calls (w : World) :
  Calls Try.prog 17 #[] w fun e w' => e = .returned (.bool true) ∧ Below w.heap.size w w' := by
 have hu34 := Try.underlying34
 have hu37 := Try.underlying37
 go_enter Try.func17, Try.ntmps17
 go_wp2_with fail
 refine (three_calls _).mono ?_
 rintro e w1 ⟨g1, rfl, hg1, h1, hb1⟩
 go_wp2_with fail
 refine (three_calls _).mono ?_
 rintro e w2 ⟨g2, rfl, hg2, h2, hb2⟩
 have L1 := Aside0.mk (blk_below h1 hb2)
 have L2 := Aside0.mk h2
 have HB := Aside0.mk (below_step hb1 hb2)
 have hne : g1 ≠ g2 := by have := blk_lt h1; omega
 have hs1 := hb1.size
 have hw2 : w.heap.size ≤ g2 := by omega
 clear h1 h2 hb1 hb2
 have f1 := blk_cell L1.out 3
 have z1 := blk_lt L1.out
 have k1 := blk_frozen L1.out 3
 simp only [List.getElem?_toArray, List.getElem?_cons_zero, List.getElem?_cons_succ] at f1
 have f2 := blk_cell L2.out 2
 have f3 := blk_cell L2.out 6
 have z2 := blk_lt L2.out
 have k2 := blk_frozen L2.out 2
 have k3 := blk_frozen L2.out 6
 simp only [List.getElem?_toArray, List.getElem?_cons_zero, List.getElem?_cons_succ] at f2 f3
 skip
 go_wp2_with fail
 have hz_ : (((w2.setCell ⟨g1, 3, none⟩ (.slice (some ⟨w2.heap.size, 0, none⟩) 1 1)).setCell ⟨g2, 2, none⟩ (.bool true)).setCell ⟨g2, 6, none⟩ (.bool true)).heap.size = w2.heap.size := by simp [World.setCell]
 have E1 := Aside0.mk (show ((((((w2.setCell ⟨g1, 3, none⟩ (.slice (some ⟨w2.heap.size, 0, none⟩) 1 1)).setCell ⟨g2, 2, none⟩ (.bool true)).setCell ⟨g2, 6, none⟩ (.bool true)).alloc (.cells #[.int .i64 2] 3)).alloc (.cells #[.int .i64 1, .int .i64 1, .int .i64 0, .int .i64 300, .int .i64 2, .int .i64 2, .int .i64 0, .int .i64 200, .int .i64 2, .int .i64 3, .int .i64 200, .int .i64 300] 37)).alloc (.cells #[.bool false, .bool false] 4)).heap[g1]? = some (.cells #[.int .i64 1, .int .i64 300, .bool false, .slice (some ⟨w2.heap.size, 0, none⟩) 1 1, .int .i64 2, .int .i64 200, .bool false, .slice none 0 0, .int .i64 3, .int .i64 100, .bool false, .slice none 0 0] 34) from blk_alloc (blk_alloc (blk_alloc (blk_far (blk_far (blk_put L1.out 3 (.slice (some ⟨w2.heap.size, 0, none⟩) 1 1) rfl) (p := ⟨g2, 2, none⟩) hne (.bool true)) (p := ⟨g2, 6, none⟩) hne (.bool true)) (.cells #[.int .i64 2] 3)) (.cells #[.int .i64 1, .int .i64 1, .int .i64 0, .int .i64 300, .int .i64 2, .int .i64 2, .int .i64 0, .int .i64 200, .int .i64 2, .int .i64 3, .int .i64 200, .int .i64 300] 37)) (.cells #[.bool false, .bool false] 4))
 have E2 := Aside0.mk (show ((((((w2.setCell ⟨g1, 3, none⟩ (.slice (some ⟨w2.heap.size, 0, none⟩) 1 1)).setCell ⟨g2, 2, none⟩ (.bool true)).setCell ⟨g2, 6, none⟩ (.bool true)).alloc (.cells #[.int .i64 2] 3)).alloc (.cells #[.int .i64 1, .int .i64 1, .int .i64 0, .int .i64 300, .int .i64 2, .int .i64 2, .int .i64 0, .int .i64 200, .int .i64 2, .int .i64 3, .int .i64 200, .int .i64 300] 37)).alloc (.cells #[.bool false, .bool false] 4)).heap[g2]? = some (.cells #[.int .i64 1, .int .i64 300, .bool true, .slice none 0 0, .int .i64 2, .int .i64 200, .bool true, .slice none 0 0, .int .i64 3, .int .i64 100, .bool false, .slice none 0 0] 34) from blk_alloc (blk_alloc (blk_alloc (blk_put (blk_put (blk_far L2.out (p := ⟨g1, 3, none⟩) hne.symm (.slice (some ⟨w2.heap.size, 0, none⟩) 1 1)) 2 (.bool true) rfl) 6 (.bool true) rfl) (.cells #[.int .i64 2] 3)) (.cells #[.int .i64 1, .int .i64 1, .int .i64 0, .int .i64 300, .int .i64 2, .int .i64 2, .int .i64 0, .int .i64 200, .int .i64 2, .int .i64 3, .int .i64 200, .int .i64 300] 37)) (.cells #[.bool false, .bool false] 4))
 have E3 := Aside0.mk (show ((((((w2.setCell ⟨g1, 3, none⟩ (.slice (some ⟨w2.heap.size, 0, none⟩) 1 1)).setCell ⟨g2, 2, none⟩ (.bool true)).setCell ⟨g2, 6, none⟩ (.bool true)).alloc (.cells #[.int .i64 2] 3)).alloc (.cells #[.int .i64 1, .int .i64 1, .int .i64 0, .int .i64 300, .int .i64 2, .int .i64 2, .int .i64 0, .int .i64 200, .int .i64 2, .int .i64 3, .int .i64 200, .int .i64 300] 37)).alloc (.cells #[.bool false, .bool false] 4)).heap[w2.heap.size]? = some (.cells #[.int .i64 2] 3) from blk_alloc (blk_alloc (heap_new hz_) (.cells #[.int .i64 1, .int .i64 1, .int .i64 0, .int .i64 300, .int .i64 2, .int .i64 2, .int .i64 0, .int .i64 200, .int .i64 2, .int .i64 3, .int .i64 200, .int .i64 300] 37)) (.cells #[.bool false, .bool false] 4))
 have E4 := Aside0.mk (show ((((((w2.setCell ⟨g1, 3, none⟩ (.slice (some ⟨w2.heap.size, 0, none⟩) 1 1)).setCell ⟨g2, 2, none⟩ (.bool true)).setCell ⟨g2, 6, none⟩ (.bool true)).alloc (.cells #[.int .i64 2] 3)).alloc (.cells #[.int .i64 1, .int .i64 1, .int .i64 0, .int .i64 300, .int .i64 2, .int .i64 2, .int .i64 0, .int .i64 200, .int .i64 2, .int .i64 3, .int .i64 200, .int .i64 300] 37)).alloc (.cells #[.bool false, .bool false] 4)).heap[w2.heap.size + 1]? = some (.cells #[.int .i64 1, .int .i64 1, .int .i64 0, .int .i64 300, .int .i64 2, .int .i64 2, .int .i64 0, .int .i64 200, .int .i64 2, .int .i64 3, .int .i64 200, .int .i64 300] 37) from blk_alloc (heap_new (by simp [World.setCell])) (.cells #[.bool false, .bool false] 4))
 have E5 := Aside0.mk (show ((((((w2.setCell ⟨g1, 3, none⟩ (.slice (some ⟨w2.heap.size, 0, none⟩) 1 1)).setCell ⟨g2, 2, none⟩ (.bool true)).setCell ⟨g2, 6, none⟩ (.bool true)).alloc (.cells #[.int .i64 2] 3)).alloc (.cells #[.int .i64 1, .int .i64 1, .int .i64 0, .int .i64 300, .int .i64 2, .int .i64 2, .int .i64 0, .int .i64 200, .int .i64 2, .int .i64 3, .int .i64 200, .int .i64 300] 37)).alloc (.cells #[.bool false, .bool false] 4)).heap[w2.heap.size + 1 + 1]? = some (.cells #[.bool false, .bool false] 4) from heap_new (by simp [World.setCell]))
 have hb0 : Below w.heap.size w (((w2.setCell ⟨g1, 3, none⟩ (.slice (some ⟨w2.heap.size, 0, none⟩) 1 1)).setCell ⟨g2, 2, none⟩ (.bool true)).setCell ⟨g2, 6, none⟩ (.bool true)) := below_set (below_set (below_set HB.out (by omega)) hw2) hw2
 have HB5 := Aside0.mk (below_alloc (below_alloc (below_alloc hb0 (.cells #[.int .i64 2] 3)) (.cells #[.int .i64 1, .int .i64 1, .int .i64 0, .int .i64 300, .int .i64 2, .int .i64 2, .int .i64 0, .int .i64 200, .int .i64 2, .int .i64 3, .int .i64 200, .int .i64 300] 37)) (.cells #[.bool false, .bool false] 4))
 clear hb0 hz_ f1 f2 f3 k1 k2 k3 z1 z2 L1 L2 HB
 generalize ((((((w2.setCell ⟨g1, 3, none⟩ (.slice (some ⟨w2.heap.size, 0, none⟩) 1 1)).setCell ⟨g2, 2, none⟩ (.bool true)).setCell ⟨g2, 6, none⟩ (.bool true)).alloc (.cells #[.int .i64 2] 3)).alloc (.cells #[.int .i64 1, .int .i64 1, .int .i64 0, .int .i64 300, .int .i64 2, .int .i64 2, .int .i64 0, .int .i64 200, .int .i64 2, .int .i64 3, .int .i64 200, .int .i64 300] 37)).alloc (.cells #[.bool false, .bool false] 4)) = ww at E1 E2 E3 E4 E5 HB5 ⊢
 generalize w2.heap.size + 1 + 1 = gt at E5 ⊢
 generalize w2.heap.size + 1 = gp at E4 ⊢
 generalize w2.heap.size = gc at E1 E3 ⊢
 have hb := below_drew (Below.refl ww.heap.size ww)
 have nE1_ := Aside0.mk (blk_below E1.out hb)
 have nE2_ := Aside0.mk (blk_below E2.out hb)
 have nE3_ := Aside0.mk (blk_below E3.out hb)
 have nE4_ := Aside0.mk (blk_below E4.out hb)
 have nE5_ := Aside0.mk (blk_below E5.out hb)
 have nHB5_ := Aside0.mk (below_step HB5.out hb)
 clear hb E1 E2 E3 E4 E5 HB5
 have E1 := nE1_
 have E2 := nE2_
 have E3 := nE3_
 have E4 := nE4_
 have E5 := nE5_
 have HB5 := nHB5_
 clear nE1_ nE2_ nE3_ nE4_ nE5_ nHB5_
 refine start_ (n := 72) (S := fun w' => True) (ds := []) #[false, false, false, false, false, false, false, false, false, false, false, false, false, false, false, false, false, false, false, false, false, false, false, false, false, false, false, false, false, false, false, false, false, false, false, false, false, false, false, false, false, false, false, false, false, false, false, false, false, false, false, false, false, false, false, false, false, false, false, false, false, false, false, false, false, false, false, false, false, false, false, false] (by kernel_rfl) rfl rfl trivial (fun hHeld => ?_)
 refine with_tabW X17.tab6 X17.bits6 (fun HT_ HW_ => ?_)
 generalize ww.drew = wd at E1 E2 E3 E4 E5 HB5 hHeld ⊢
 refine pure_ (i := 0) (N := some 22) (v := ?_) (a' := ?_) #[true, false, false, false, false, false, false, false, false, false, false, false, false, false, false, false, false, false, false, false, false, false, false, false, false, false, false, false, false, false, false, false, false, false, false, false, false, false, false, false, false, false, false, false, false, false, false, false, false, false, false, false, false, false, false, false, false, false, false, false, false, false, false, false, false, false, false, false, false, false, false, false] rfl rfl (any_of HT_.out (by kernel_rfl)) (fun _ _ _ h => h) (Or.inl ⟨by rfl, ?_⟩) ?_ ?_
 rotate_left
 ·intro w'
  go_simp
  with_reducible rfl
 rotate_left
 ·simp only [Act.put, List.setIfInBounds_toArray, List.set_cons_zero, List.set_cons_succ, i64_w, i32_w]
  rfl
 refine pure_ (i := 1) (N := some 23) (v := ?_) (a' := ?_) #[true, true, false, false, false, false, false, false, false, false, false, false, false, false, false, false, false, false, false, false, false, false, false, false, false, false, false, false, false, false, false, false, false, false, false, false, false, false, false, false, false, false, false, false, false, false, false, false, false, false, false, false, false, false, false, false, false, false, false, false, false, false, false, false, false, false, false, false, false, false, false, false] rfl rfl (any_of HT_.out (by kernel_rfl)) (fun _ _ _ h => h) (Or.inl ⟨by rfl, ?_⟩) ?_ ?_
 rotate_left
 ·intro w'
  go_simp
  with_reducible rfl
 rotate_left
 ·simp only [Act.put, List.setIfInBounds_toArray, List.set_cons_zero, List.set_cons_succ, i64_w, i32_w]
  rfl
 refine one_ (i := 2) (N := some 24) #[true, true, true, false, false, false, false, false, false, false, false, false, false, false, false, false, false, false, false, false, false, false, false, false, false, false, false, false, false, false, false, false, false, false, false, false, false, false, false, false, false, false, false, false, false, false, false, false, false, false, false, false, false, false, false, false, false, false, false, false, false, false, false, false, false, false, false, false, false, false, false, false] rfl rfl (one_of HT_.out (by kernel_rfl)) (by decide) (fun K hK => ?_)
 refine goes_ Try.func18 (by kernel_rfl) rfl #[.slice (some ⟨g1, 0, none⟩) 3 3, .slice (some ⟨gt, 0, none⟩) 2 2] (by rfl) rfl rfl (by simp only [List.map_toArray, List.map_cons, List.map_nil]; rfl) ?_
 refine (route_Right.calls 30 (some ⟨g1, 0, none⟩) 3 alv_aL (some ⟨gt, 0, none⟩) 2 [false, false] 0 _ (alv_c_L E1.out E3.out) (by decide) (alv_c_2 E5.out) (by decide) alv_v_r1).mono ?_
 rintro e_ wz ⟨rfl, hb⟩
 have nE1_ := Aside0.mk (blk_below E1.out hb)
 have nE2_ := Aside0.mk (blk_below E2.out hb)
 have nE3_ := Aside0.mk (blk_below E3.out hb)
 have nE4_ := Aside0.mk (blk_below E4.out hb)
 have nE5_ := Aside0.mk (blk_below E5.out hb)
 have nHB5_ := Aside0.mk (below_step HB5.out hb)
 clear hb E1 E2 E3 E4 E5 HB5
 have E1 := nE1_
 have E2 := nE2_
 have E3 := nE3_
 have E4 := nE4_
 have E5 := nE5_
 have HB5 := nHB5_
 clear nE1_ nE2_ nE3_ nE4_ nE5_ nHB5_
 refine ⟨_, rfl, ?_⟩
 refine hK.out _ _ trivial (fun hHeld => ?_)
 clear hK K
 refine norm_ (a' := ?_) ?_ ?_
 rotate_left
 ·show Act.put _ (some 24) _ = _
  simp only [Act.put, List.setIfInBounds_toArray, List.set_cons_zero, List.set_cons_succ, i64_w, i32_w]
  rfl
 refine pure_ (i := 3) (N := some 25) (v := ?_) (a' := ?_) #[true, true, true, true, false, false, false, false, false, false, false, false, false, false, false, false, false, false, false, false, false, false, false, false, false, false, false, false, false, false, false, false, false, false, false, false, false, false, false, false, false, false, false, false, false, false, false, false, false, false, false, false, false, false, false, false, false, false, false, false, false, false, false, false, false, false, false, false, false, false, false, false] rfl rfl (any_of HT_.out (by kernel_rfl)) (fun _ _ _ h => h) (Or.inl ⟨by rfl, ?_⟩) ?_ ?_
 rotate_left
 ·intro w'
  go_simp
  with_reducible rfl
 rotate_left
 ·simp only [Act.put, List.setIfInBounds_toArray, List.set_cons_zero, List.set_cons_succ, i64_w, i32_w]
  rfl
 refine pure_ (i := 4) (N := some 26) (v := ?_) (a' := ?_) #[true, true, true, true, true, false, false, false, false, false, false, false, false, false, false, false, false, false, false, false, false, false, false, false, false, false, false, false, false, false, false, false, false, false, false, false, false, false, false, false, false, false, false, false, false, false, false, false, false, false, false, false, false, false, false, false, false, false, false, false, false, false, false, false, false, false, false, false, false, false, false, false] rfl rfl (any_of HT_.out (by kernel_rfl)) (fun _ _ _ h => h) (Or.inl ⟨by rfl, ?_⟩) ?_ ?_
 rotate_left
 ·intro w'
  go_simp
  with_reducible rfl
 rotate_left
 ·simp only [Act.put, List.setIfInBounds_toArray, List.set_cons_zero, List.set_cons_succ, i64_w, i32_w]
  rfl
 refine pure_ (i := 5) (N := some 27) (v := ?_) (a' := ?_) #[true, true, true, true, true, true, false, false, false, false, false, false, false, false, false, false, false, false, false, false, false, false, false, false, false, false, false, false, false, false, false, false, false, false, false, false, false, false, false, false, false, false, false, false, false, false, false, false, false, false, false, false, false, false, false, false, false, false, false, false, false, false, false, false, false, false, false, false, false, false, false, false] rfl rfl (any_of HT_.out (by kernel_rfl)) (fun _ _ _ h => h) (Or.inl ⟨by rfl, ?_⟩) ?_ ?_
 rotate_left
 ·intro w'
  go_simp
  with_reducible rfl
 rotate_left
 ·simp only [Act.put, List.setIfInBounds_toArray, List.set_cons_zero, List.set_cons_succ, i64_w, i32_w]
  rfl
 refine one_ (i := 6) (N := some 28) #[true, true, true, true, true, true, true, false, false, false, false, false, false, false, false, false, false, false, false, false, false, false, false, false, false, false, false, false, false, false, false, false, false, false, false, false, false, false, false, false, false, false, false, false, false, false, false, false, false, false, false, false, false, false, false, false, false, false, false, false, false, false, false, false, false, false, false, false, false, false, false, false] rfl rfl (one_of HT_.out (by kernel_rfl)) (by decide) (fun K hK => ?_)
 refine goes_ Try.func18 (by kernel_rfl) rfl #[.slice (some ⟨g1, 0, none⟩) 3 3, .slice none 0 0] (by rfl) rfl rfl (by simp only [List.map_toArray, List.map_cons, List.map_nil]; rfl) ?_
 refine (route_Right.calls 30 (some ⟨g1, 0, none⟩) 3 alv_aL none 0 [] 8 _ (alv_c_L E1.out E3.out) (by decide) (Kd.C_nil _ _) (by decide) alv_v_r2).mono ?_
 rintro e_ wz ⟨rfl, hb⟩
 have nE1_ := Aside0.mk (blk_below E1.out hb)
 have nE2_ := Aside0.mk (blk_below E2.out hb)
 have nE3_ := Aside0.mk (blk_below E3.out hb)
 have nE4_ := Aside0.mk (blk_below E4.out hb)
 have nE5_ := Aside0.mk (blk_below E5.out hb)
 have nHB5_ := Aside0.mk (below_step HB5.out hb)
 clear hb E1 E2 E3 E4 E5 HB5
 have E1 := nE1_
 have E2 := nE2_
 have E3 := nE3_
 have E4 := nE4_
 have E5 := nE5_
 have HB5 := nHB5_
 clear nE1_ nE2_ nE3_ nE4_ nE5_ nHB5_
 refine ⟨_, rfl, ?_⟩
 refine hK.out _ _ trivial (fun hHeld => ?_)
 clear hK K
 refine norm_ (a' := ?_) ?_ ?_
 rotate_left
 ·show Act.put _ (some 28) _ = _
  simp only [Act.put, List.setIfInBounds_toArray, List.set_cons_zero, List.set_cons_succ, i64_w, i32_w]
  rfl
 refine pure_ (i := 7) (N := some 29) (v := ?_) (a' := ?_) #[true, true, true, true, true, true, true, true, false, false, false, false, false, false, false, false, false, false, false, false, false, false, false, false, false, false, false, false, false, false, false, false, false, false, false, false, false, false, false, false, false, false, false, false, false, false, false, false, false, false, false, false, false, false, false, false, false, false, false, false, false, false, false, false, false, false, false, false, false, false, false, false] rfl rfl (any_of HT_.out (by kernel_rfl)) (fun _ _ _ h => h) (Or.inl ⟨by rfl, ?_⟩) ?_ ?_
 rotate_left
 ·intro w'
  go_simp
  with_reducible rfl
 rotate_left
 ·simp only [Act.put, List.setIfInBounds_toArray, List.set_cons_zero, List.set_cons_succ, i64_w, i32_w]
  rfl
 refine pure_ (i := 8) (N := some 30) (v := ?_) (a' := ?_) #[true, true, true, true, true, true, true, true, true, false, false, false, false, false, false, false, false, false, false, false, false, false, false, false, false, false, false, false, false, false, false, false, false, false, false, false, false, false, false, false, false, false, false, false, false, false, false, false, false, false, false, false, false, false, false, false, false, false, false, false, false, false, false, false, false, false, false, false, false, false, false, false] rfl rfl (any_of HT_.out (by kernel_rfl)) (fun _ _ _ h => h) (Or.inl ⟨by rfl, ?_⟩) ?_ ?_
 rotate_left
 ·intro w'
  go_simp
  with_reducible rfl
 rotate_left
 ·simp only [Act.put, List.setIfInBounds_toArray, List.set_cons_zero, List.set_cons_succ, i64_w, i32_w]
  rfl
 refine pure_ (i := 9) (N := some 31) (v := ?_) (a' := ?_) #[true, true, true, true, true, true, true, true, true, true, false, false, false, false, false, false, false, false, false, false, false, false, false, false, false, false, false, false, false, false, false, false, false, false, false, false, false, false, false, false, false, false, false, false, false, false, false, false, false, false, false, false, false, false, false, false, false, false, false, false, false, false, false, false, false, false, false, false, false, false, false, false] rfl rfl (any_of HT_.out (by kernel_rfl)) (fun _ _ _ h => h) (Or.inl ⟨by rfl, ?_⟩) ?_ ?_
 rotate_left
 ·intro w'
  go_simp
  with_reducible rfl
 rotate_left
 ·simp only [Act.put, List.setIfInBounds_toArray, List.set_cons_zero, List.set_cons_succ, i64_w, i32_w]
  rfl
 refine pure_ (i := 10) (N := some 32) (v := ?_) (a' := ?_) #[true, true, true, true, true, true, true, true, true, true, true, false, false, false, false, false, false, false, false, false, false, false, false, false, false, false, false, false, false, false, false, false, false, false, false, false, false, false, false, false, false, false, false, false, false, false, false, false, false, false, false, false, false, false, false, false, false, false, false, false, false, false, false, false, false, false, false, false, false, false, false, false] rfl rfl (any_of HT_.out (by kernel_rfl)) (fun _ _ _ h => h) (Or.inl ⟨by rfl, ?_⟩) ?_ ?_
 rotate_left
 ·intro w'
  go_simp
  with_reducible rfl
 rotate_left
 ·simp only [Act.put, List.setIfInBounds_toArray, List.set_cons_zero, List.set_cons_succ, i64_w, i32_w]
  rfl
 refine pure_ (i := 11) (N := some 33) (v := ?_) (a' := ?_) #[true, true, true, true, true, true, true, true, true, true, true, true, false, false, false, false, false, false, false, false, false, false, false, false, false, false, false, false, false, false, false, false, false, false, false, false, false, false, false, false, false, false, false, false, false, false, false, false, false, false, false, false, false, false, false, false, false, false, false, false, false, false, false, false, false, false, false, false, false, false, false, false] rfl rfl (any_of HT_.out (by kernel_rfl)) (fun _ _ _ h => h) (Or.inl ⟨by rfl, ?_⟩) ?_ ?_
 rotate_left
 ·intro w'
  go_simp
  with_reducible rfl
 rotate_left
 ·simp only [Act.put, List.setIfInBounds_toArray, List.set_cons_zero, List.set_cons_succ, i64_w, i32_w]
  rfl
 refine one_ (i := 12) (N := some 34) #[true, true, true, true, true, true, true, true, true, true, true, true, true, false, false, false, false, false, false, false, false, false, false, false, false, false, false, false, false, false, false, false, false, false, false, false, false, false, false, false, false, false, false, false, false, false, false, false, false, false, false, false, false, false, false, false, false, false, false, false, false, false, false, false, false, false, false, false, false, false, false, false] rfl rfl (one_of HT_.out (by kernel_rfl)) (by decide) (fun K hK => ?_)
 refine goes_ Try.func18 (by kernel_rfl) rfl #[.slice (some ⟨g2, 0, none⟩) 3 3, .slice (some ⟨gt, 0, none⟩) 2 2] (by rfl) rfl rfl (by simp only [List.map_toArray, List.map_cons, List.map_nil]; rfl) ?_
 refine (route_Right.calls 30 (some ⟨g2, 0, none⟩) 3 alv_aW (some ⟨gt, 0, none⟩) 2 [false, false] 13 _ (alv_c_W E2.out) (by decide) (alv_c_2 E5.out) (by decide) alv_v_r3).mono ?_
 rintro e_ wz ⟨rfl, hb⟩
 have nE1_ := Aside0.mk (blk_below E1.out hb)
 have nE2_ := Aside0.mk (blk_below E2.out hb)
 have nE3_ := Aside0.mk (blk_below E3.out hb)
 have nE4_ := Aside0.mk (blk_below E4.out hb)
 have nE5_ := Aside0.mk (blk_below E5.out hb)
 have nHB5_ := Aside0.mk (below_step HB5.out hb)
 clear hb E1 E2 E3 E4 E5 HB5
 have E1 := nE1_
 have E2 := nE2_
 have E3 := nE3_
 have E4 := nE4_
 have E5 := nE5_
 have HB5 := nHB5_
 clear nE1_ nE2_ nE3_ nE4_ nE5_ nHB5_
 refine ⟨_, rfl, ?_⟩
 refine hK.out _ _ trivial (fun hHeld => ?_)
 clear hK K
 refine norm_ (a' := ?_) ?_ ?_
 rotate_left
 ·show Act.put _ (some 34) _ = _
  simp only [Act.put, List.setIfInBounds_toArray, List.set_cons_zero, List.set_cons_succ, i64_w, i32_w]
  rfl
 refine pure_ (i := 13) (N := some 35) (v := ?_) (a' := ?_) #[true, true, true, true, true, true, true, true, true, true, true, true, true, true, false, false, false, false, false, false, false, false, false, false, false, false, false, false, false, false, false, false, false, false, false, false, false, false, false, false, false, false, false, false, false, false, false, false, false, false, false, false, false, false, false, false, false, false, false, false, false, false, false, false, false, false, false, false, false, false, false, false] rfl rfl (any_of HT_.out (by kernel_rfl)) (fun _ _ _ h => h) (Or.inl ⟨by rfl, ?_⟩) ?_ ?_
 rotate_left
 ·intro w'
  go_simp
  with_reducible rfl
 rotate_left
 ·simp only [Act.put, List.setIfInBounds_toArray, List.set_cons_zero, List.set_cons_succ, i64_w, i32_w]
  rfl
 refine pure_ (i := 14) (N := some 36) (v := ?_) (a' := ?_) #[true, true, true, true, true, true, true, true, true, true, true, true, true, true, true, false, false, false, false, false, false, false, false, false, false, false, false, false, false, false, false, false, false, false, false, false, false, false, false, false, false, false, false, false, false, false, false, false, false, false, false, false, false, false, false, false, false, false, false, false, false, false, false, false, false, false, false, false, false, false, false, false] rfl rfl (any_of HT_.out (by kernel_rfl)) (fun _ _ _ h => h) (Or.inl ⟨by rfl, ?_⟩) ?_ ?_
 rotate_left
 ·intro w'
  go_simp
  with_reducible rfl
 rotate_left
 ·simp only [Act.put, List.setIfInBounds_toArray, List.set_cons_zero, List.set_cons_succ, i64_w, i32_w]
  rfl
 refine pure_ (i := 15) (N := some 37) (v := ?_) (a' := ?_) #[true, true, true, true, true, true, true, true, true, true, true, true, true, true, true, true, false, false, false, false, false, false, false, false, false, false, false, false, false, false, false, false, false, false, false, false, false, false, false, false, false, false, false, false, false, false, false, false, false, false, false, false, false, false, false, false, false, false, false, false, false, false, false, false, false, false, false, false, false, false, false, false] rfl rfl (any_of HT_.out (by kernel_rfl)) (fun _ _ _ h => h) (Or.inl ⟨by rfl, ?_⟩) ?_ ?_
 rotate_left
 ·intro w'
  go_simp
  with_reducible rfl
 rotate_left
 ·simp only [Act.put, List.setIfInBounds_toArray, List.set_cons_zero, List.set_cons_succ, i64_w, i32_w]
  rfl
 refine pure_ (i := 17) (N := some 39) (v := ?_) (a' := ?_) #[true, true, true, true, true, true, true, true, true, true, true, true, true, true, true, true, false, true, false, false, false, false, false, false, false, false, false, false, false, false, false, false, false, false, false, false, false, false, false, false, false, false, false, false, false, false, false, false, false, false, false, false, false, false, false, false, false, false, false, false, false, false, false, false, false, false, false, false, false, false, false, false] rfl rfl (any_of HT_.out (by kernel_rfl)) (fun _ _ _ h => h) (Or.inl ⟨by rfl, ?_⟩) ?_ ?_
 rotate_left
 ·intro w'
  go_simp
  with_reducible rfl
 rotate_left
 ·simp only [Act.put, List.setIfInBounds_toArray, List.set_cons_zero, List.set_cons_succ, i64_w, i32_w]
  rfl
 refine pure_ (i := 18) (N := some 40) (v := ?_) (a' := ?_) #[true, true, true, true, true, true, true, true, true, true, true, true, true, true, true, true, false, true, true, false, false, false, false, false, false, false, false, false, false, false, false, false, false, false, false, false, false, false, false, false, false, false, false, false, false, false, false, false, false, false, false, false, false, false, false, false, false, false, false, false, false, false, false, false, false, false, false, false, false, false, false, false] rfl rfl (any_of HT_.out (by kernel_rfl)) (fun _ _ _ h => h) (Or.inl ⟨by rfl, ?_⟩) ?_ ?_
 rotate_left
 ·intro w'
  go_simp
  with_reducible rfl
 rotate_left
 ·simp only [Act.put, List.setIfInBounds_toArray, List.set_cons_zero, List.set_cons_succ, i64_w, i32_w]
  rfl
 refine one_ (i := 16) (N := some 38) #[true, true, true, true, true, true, true, true, true, true, true, true, true, true, true, true, true, true, true, false, false, false, false, false, false, false, false, false, false, false, false, false, false, false, false, false, false, false, false, false, false, false, false, false, false, false, false, false, false, false, false, false, false, false, false, false, false, false, false, false, false, false, false, false, false, false, false, false, false, false, false, false] rfl rfl (one_of HT_.out (by kernel_rfl)) (by decide) (fun K hK => ?_)
 refine goes_ Try.func28 (by kernel_rfl) rfl #[] (by rfl) rfl rfl (by simp only [List.map_toArray, List.map_cons, List.map_nil]) ?_
 refine (three_calls _).mono ?_
 rintro e_ wz ⟨g3, rfl, hg_, h3_, hb⟩
 have g3_E := Aside0.mk h3_
 clear h3_ hg_
 have nE1_ := Aside0.mk (blk_below E1.out hb)
 have nE2_ := Aside0.mk (blk_below E2.out hb)
 have nE3_ := Aside0.mk (blk_below E3.out hb)
 have nE4_ := Aside0.mk (blk_below E4.out hb)
 have nE5_ := Aside0.mk (blk_below E5.out hb)
 have nHB5_ := Aside0.mk (below_step HB5.out hb)
 clear hb E1 E2 E3 E4 E5 HB5
 have E1 := nE1_
 have E2 := nE2_
 have E3 := nE3_
 have E4 := nE4_
 have E5 := nE5_
 have HB5 := nHB5_
 clear nE1_ nE2_ nE3_ nE4_ nE5_ nHB5_
 refine ⟨_, rfl, ?_⟩
 refine hK.out _ _ trivial (fun hHeld => ?_)
 clear hK K
 refine norm_ (a' := ?_) ?_ ?_
 rotate_left
 ·show Act.put _ (some 38) _ = _
  simp only [Act.put, List.setIfInBounds_toArray, List.set_cons_zero, List.set_cons_succ, i64_w, i32_w]
  rfl
 refine one_ (i := 19) (N := some 41) #[true, true, true, true, true, true, true, true, true, true, true, true, true, true, true, true, true, true, true, true, false, false, false, false, false, false, false, false, false, false, false, false, false, false, false, false, false, false, false, false, false, false, false, false, false, false, false, false, false, false, false, false, false, false, false, false, false, false, false, false, false, false, false, false, false, false, false, false, false, false, false, false] rfl rfl (one_of HT_.out (by kernel_rfl)) (by decide) (fun K hK => ?_)
 refine goes_ Try.func15 (by kernel_rfl) rfl #[.slice (some ⟨g3, 0, none⟩) 3 3, .slice (some ⟨gt, 0, none⟩) 2 2, .slice (some ⟨gp, 0, none⟩) 3 3] (by rfl) rfl rfl (by simp only [List.map_toArray, List.map_cons, List.map_nil]; rfl) ?_
 refine (route_Valid.calls 40 (some ⟨g3, 0, none⟩) 3 alv_t3 (some ⟨gt, 0, none⟩) 2 [false, false] (some ⟨gp, 0, none⟩) 3 alv_aP true _ (alv_c_3 g3_E.out) (by decide) (alv_c_2 E5.out) (by decide) (alv_c_P E4.out) (by decide) alv_v_v1).mono ?_
 rintro e_ wz ⟨rfl, hb⟩
 have nE1_ := Aside0.mk (blk_below E1.out hb)
 have nE2_ := Aside0.mk (blk_below E2.out hb)
 have nE3_ := Aside0.mk (blk_below E3.out hb)
 have nE4_ := Aside0.mk (blk_below E4.out hb)
 have nE5_ := Aside0.mk (blk_below E5.out hb)
 have nHB5_ := Aside0.mk (below_step HB5.out hb)
 clear hb E1 E2 E3 E4 E5 HB5
 have E1 := nE1_
 have E2 := nE2_
 have E3 := nE3_
 have E4 := nE4_
 have E5 := nE5_
 have HB5 := nHB5_
 clear nE1_ nE2_ nE3_ nE4_ nE5_ nHB5_
 refine ⟨_, rfl, ?_⟩
 refine hK.out _ _ trivial (fun hHeld => ?_)
 clear hK K
 refine norm_ (a' := ?_) ?_ ?_
 rotate_left
 ·show Act.put _ (some 41) _ = _
  simp only [Act.put, List.setIfInBounds_toArray, List.set_cons_zero, List.set_cons_succ, i64_w, i32_w]
  rfl
 refine pure_ (i := 20) (N := some 42) (v := ?_) (a' := ?_) #[true, true, true, true, true, true, true, true, true, true, true, true, true, true, true, true, true, true, true, true, true, false, false, false, false, false, false, false, false, false, false, false, false, false, false, false, false, false, false, false, false, false, false, false, false, false, false, false, false, false, false, false, false, false, false, false, false, false, false, false, false, false, false, false, false, false, false, false, false, false, false, false] rfl rfl (any_of HT_.out (by kernel_rfl)) (fun _ _ _ h => h) (Or.inl ⟨by rfl, ?_⟩) ?_ ?_
 rotate_left
 ·intro w'
  go_simp
  with_reducible rfl
 rotate_left
 ·simp only [Act.put, List.setIfInBounds_toArray, List.set_cons_zero, List.set_cons_succ, i64_w, i32_w]
  rfl
 refine pure_ (i := 21) (N := some 43) (v := ?_) (a' := ?_) #[true, true, true, true, true, true, true, true, true, true, true, true, true, true, true, true, true, true, true, true, true, true, false, false, false, false, false, false, false, false, false, false, false, false, false, false, false, false, false, false, false, false, false, false, false, false, false, false, false, false, false, false, false, false, false, false, false, false, false, false, false, false, false, false, false, false, false, false, false, false, false, false] rfl rfl (any_of HT_.out (by kernel_rfl)) (fun _ _ _ h => h) (Or.inl ⟨by rfl, ?_⟩) ?_ ?_
 rotate_left
 ·intro w'
  go_simp
  with_reducible rfl
 rotate_left
 ·simp only [Act.put, List.setIfInBounds_toArray, List.set_cons_zero, List.set_cons_succ, i64_w, i32_w]
  rfl
 refine pure_ (i := 22) (N := some 44) (v := ?_) (a' := ?_) #[true, true, true, true, true, true, true, true, true, true, true, true, true, true, true, true, true, true, true, true, true, true, true, false, false, false, false, false, false, false, false, false, false, false, false, false, false, false, false, false, false, false, false, false, false, false, false, false, false, false, false, false, false, false, false, false, false, false, false, false, false, false, false, false, false, false, false, false, false, false, false, false] rfl rfl (any_of HT_.out (by kernel_rfl)) (fun _ _ _ h => h) (Or.inl ⟨by rfl, ?_⟩) ?_ ?_
 rotate_left
 ·intro w'
  go_simp
  with_reducible rfl
 rotate_left
 ·simp only [Act.put, List.setIfInBounds_toArray, List.set_cons_zero, List.set_cons_succ, i64_w, i32_w]
  rfl
 refine pure_ (i := 23) (N := some 45) (v := ?_) (a' := ?_) #[true, true, true, true, true, true, true, true, true, true, true, true, true, true, true, true, true, true, true, true, true, true, true, true, false, false, false, false, false, false, false, false, false, false, false, false, false, false, false, false, false, false, false, false, false, false, false, false, false, false, false, false, false, false, false, false, false, false, false, false, false, false, false, false, false, false, false, false, false, false, false, false] rfl rfl (any_of HT_.out (by kernel_rfl)) (fun _ _ _ h => h) (Or.inl ⟨by rfl, ?_⟩) ?_ ?_
 rotate_left
 ·intro w'
  go_simp
  with_reducible rfl
 rotate_left
 ·simp only [Act.put, List.setIfInBounds_toArray, List.set_cons_zero, List.set_cons_succ, i64_w, i32_w]
  rfl
 refine pure_ (i := 24) (N := some 46) (v := ?_) (a' := ?_) #[true, true, true, true, true, true, true, true, true, true, true, true, true, true, true, true, true, true, true, true, true, true, true, true, true, false, false, false, false, false, false, false, false, false, false, false, false, false, false, false, false, false, false, false, false, false, false, false, false, false, false, false, false, false, false, false, false, false, false, false, false, false, false, false, false, false, false, false, false, false, false, false] rfl rfl (any_of HT_.out (by kernel_rfl)) (fun _ _ _ h => h) (Or.inl ⟨by rfl, ?_⟩) ?_ ?_
 rotate_left
 ·intro w'
  go_simp
  with_reducible rfl
 rotate_left
 ·simp only [Act.put, List.setIfInBounds_toArray, List.set_cons_zero, List.set_cons_succ, i64_w, i32_w]
  rfl
 refine one_ (i := 25) (N := some 47) #[true, true, true, true, true, true, true, true, true, true, true, true, true, true, true, true, true, true, true, true, true, true, true, true, true, true, false, false, false, false, false, false, false, false, false, false, false, false, false, false, false, false, false, false, false, false, false, false, false, false, false, false, false, false, false, false, false, false, false, false, false, false, false, false, false, false, false, false, false, false, false, false] rfl rfl (one_of HT_.out (by kernel_rfl)) (by decide) (fun K hK => ?_)
 refine goes_ Try.func15 (by kernel_rfl) rfl #[.slice (some ⟨g1, 0, none⟩) 3 3, .slice (some ⟨gt, 0, none⟩) 2 2, .slice (some ⟨gp, 0, none⟩) 3 3] (by rfl) rfl rfl (by simp only [List.map_toArray, List.map_cons, List.map_nil]; rfl) ?_
 refine (route_Valid.calls 40 (some ⟨g1, 0, none⟩) 3 alv_aL (some ⟨gt, 0, none⟩) 2 [false, false] (some ⟨gp, 0, none⟩) 3 alv_aP false _ (alv_c_L E1.out E3.out) (by decide) (alv_c_2 E5.out) (by decide) (alv_c_P E4.out) (by decide) alv_v_v2).mono ?_
 rintro e_ wz ⟨rfl, hb⟩
 have nE1_ := Aside0.mk (blk_below E1.out hb)
 have nE2_ := Aside0.mk (blk_below E2.out hb)
 have nE3_ := Aside0.mk (blk_below E3.out hb)
 have nE4_ := Aside0.mk (blk_below E4.out hb)
 have nE5_ := Aside0.mk (blk_below E5.out hb)
 have nHB5_ := Aside0.mk (below_step HB5.out hb)
 clear hb E1 E2 E3 E4 E5 HB5
 have E1 := nE1_
 have E2 := nE2_
 have E3 := nE3_
 have E4 := nE4_
 have E5 := nE5_
 have HB5 := nHB5_
 clear nE1_ nE2_ nE3_ nE4_ nE5_ nHB5_
 refine ⟨_, rfl, ?_⟩
 refine hK.out _ _ trivial (fun hHeld => ?_)
 clear hK K
 refine norm_ (a' := ?_) ?_ ?_
 rotate_left
 ·show Act.put _ (some 47) _ = _
  simp only [Act.put, List.setIfInBounds_toArray, List.set_cons_zero, List.set_cons_succ, i64_w, i32_w]
  rfl
 refine pure_ (i := 26) (N := some 48) (v := ?_) (a' := ?_) #[true, true, true, true, true, true, true, true, true, true, true, true, true, true, true, true, true, true, true, true, true, true, true, true, true, true, true, false, false, false, false, false, false, false, false, false, false, false, false, false, false, false, false, false, false, false, false, false, false, false, false, false, false, false, false, false, false, false, false, false, false, false, false, false, false, false, false, false, false, false, false, false] rfl rfl (any_of HT_.out (by kernel_rfl)) (fun _ _ _ h => h) (Or.inl ⟨by rfl, ?_⟩) ?_ ?_
 rotate_left
 ·intro w'
  go_simp
  with_reducible rfl
 rotate_left
 ·simp only [Act.put, List.setIfInBounds_toArray, List.set_cons_zero, List.set_cons_succ, i64_w, i32_w]
  rfl
 refine pure_ (i := 27) (N := some 49) (v := ?_) (a' := ?_) #[true, true, true, true, true, true, true, true, true, true, true, true, true, true, true, true, true, true, true, true, true, true, true, true, true, true, true, true, false, false, false, false, false, false, false, false, false, false, false, false, false, false, false, false, false, false, false, false, false, false, false, false, false, false, false, false, false, false, false, false, false, false, false, false, false, false, false, false, false, false, false, false] rfl rfl (any_of HT_.out (by kernel_rfl)) (fun _ _ _ h => h) (Or.inl ⟨by rfl, ?_⟩) ?_ ?_
 rotate_left
 ·intro w'
  go_simp
  with_reducible rfl
 rotate_left
 ·simp only [Act.put, List.setIfInBounds_toArray, List.set_cons_zero, List.set_cons_succ, i64_w, i32_w]
  rfl
 refine pure_ (i := 28) (N := some 50) (v := ?_) (a' := ?_) #[true, true, true, true, true, true, true, true, true, true, true, true, true, true, true, true, true, true, true, true, true, true, true, true, true, true, true, true, true, false, false, false, false, false, false, false, false, false, false, false, false, false, false, false, false, false, false, false, false, false, false, false, false, false, false, false, false, false, false, false, false, false, false, false, false, false, false, false, false, false, false, false] rfl rfl (any_of HT_.out (by kernel_rfl)) (fun _ _ _ h => h) (Or.inl ⟨by rfl, ?_⟩) ?_ ?_
 rotate_left
 ·intro w'
  go_simp
  with_reducible rfl
 rotate_left
 ·simp only [Act.put, List.setIfInBounds_toArray, List.set_cons_zero, List.set_cons_succ, i64_w, i32_w]
  rfl
 refine pure_ (i := 30) (N := some 52) (v := ?_) (a' := ?_) #[true, true, true, true, true, true, true, true, true, true, true, true, true, true, true, true, true, true, true, true, true, true, true, true, true, true, true, true, true, false, true, false, false, false, false, false, false, false, false, false, false, false, false, false, false, false, false, false, false, false, false, false, false, false, false, false, false, false, false, false, false, false, false, false, false, false, false, false, false, false, false, false] rfl rfl (any_of HT_.out (by kernel_rfl)) (fun _ _ _ h => h) (Or.inl ⟨by rfl, ?_⟩) ?_ ?_
 rotate_left
 ·intro w'
  go_simp
  with_reducible rfl
 rotate_left
 ·simp only [Act.put, List.setIfInBounds_toArray, List.set_cons_zero, List.set_cons_succ, i64_w, i32_w]
  rfl
 refine pure_ (i := 31) (N := some 53) (v := ?_) (a' := ?_) #[true, true, true, true, true, true, true, true, true, true, true, true, true, true, true, true, true, true, true, true, true, true, true, true, true, true, true, true, true, false, true, true, false, false, false, false, false, false, false, false, false, false, false, false, false, false, false, false, false, false, false, false, false, false, false, false, false, false, false, false, false, false, false, false, false, false, false, false, false, false, false, false] rfl rfl (any_of HT_.out (by kernel_rfl)) (fun _ _ _ h => h) (Or.inl ⟨by rfl, ?_⟩) ?_ ?_
 rotate_left
 ·intro w'
  go_simp
  with_reducible rfl
 rotate_left
 ·simp only [Act.put, List.setIfInBounds_toArray, List.set_cons_zero, List.set_cons_succ, i64_w, i32_w]
  rfl
 refine pure_ (i := 32) (N := some 54) (v := ?_) (a' := ?_) #[true, true, true, true, true, true, true, true, true, true, true, true, true, true, true, true, true, true, true, true, true, true, true, true, true, true, true, true, true, false, true, true, true, false, false, false, false, false, false, false, false, false, false, false, false, false, false, false, false, false, false, false, false, false, false, false, false, false, false, false, false, false, false, false, false, false, false, false, false, false, false, false] rfl rfl (any_of HT_.out (by kernel_rfl)) (fun _ _ _ h => h) (Or.inl ⟨by rfl, ?_⟩) ?_ ?_
 rotate_left
 ·intro w'
  go_simp
  with_reducible rfl
 rotate_left
 ·simp only [Act.put, List.setIfInBounds_toArray, List.set_cons_zero, List.set_cons_succ, i64_w, i32_w]
  rfl
 refine one_ (i := 29) (N := some 51) #[true, true, true, true, true, true, true, true, true, true, true, true, true, true, true, true, true, true, true, true, true, true, true, true, true, true, true, true, true, true, true, true, true, false, false, false, false, false, false, false, false, false, false, false, false, false, false, false, false, false, false, false, false, false, false, false, false, false, false, false, false, false, false, false, false, false, false, false, false, false, false, false] rfl rfl (one_of HT_.out (by kernel_rfl)) (by decide) (fun K hK => ?_)
 refine goes_ Try.func28 (by kernel_rfl) rfl #[] (by rfl) rfl rfl (by simp only [List.map_toArray, List.map_cons, List.map_nil]) ?_
 refine (three_calls _).mono ?_
 rintro e_ wz ⟨g4, rfl, hg_, h3_, hb⟩
 have g4_E := Aside0.mk h3_
 clear h3_ hg_
 have nE1_ := Aside0.mk (blk_below E1.out hb)
 have nE2_ := Aside0.mk (blk_below E2.out hb)
 have nE3_ := Aside0.mk (blk_below E3.out hb)
 have nE4_ := Aside0.mk (blk_below E4.out hb)
 have nE5_ := Aside0.mk (blk_below E5.out hb)
 have nHB5_ := Aside0.mk (below_step HB5.out hb)
 clear hb E1 E2 E3 E4 E5 HB5
 have E1 := nE1_
 have E2 := nE2_
 have E3 := nE3_
 have E4 := nE4_
 have E5 := nE5_
 have HB5 := nHB5_
 clear nE1_ nE2_ nE3_ nE4_ nE5_ nHB5_
 refine ⟨_, rfl, ?_⟩
 refine hK.out _ _ trivial (fun hHeld => ?_)
 clear hK K
 refine norm_ (a' := ?_) ?_ ?_
 rotate_left
 ·show Act.put _ (some 51) _ = _
  simp only [Act.put, List.setIfInBounds_toArray, List.set_cons_zero, List.set_cons_succ, i64_w, i32_w]
  rfl
 refine one_ (i := 33) (N := some 55) #[true, true, true, true, true, true, true, true, true, true, true, true, true, true, true, true, true, true, true, true, true, true, true, true, true, true, true, true, true, true, true, true, true, true, false, false, false, false, false, false, false, false, false, false, false, false, false, false, false, false, false, false, false, false, false, false, false, false, false, false, false, false, false, false, false, false, false, false, false, false, false, false] rfl rfl (one_of HT_.out (by kernel_rfl)) (by decide) (fun K hK => ?_)
 refine goes_ Try.func15 (by kernel_rfl) rfl #[.slice (some ⟨g4, 0, none⟩) 3 3, .slice (some ⟨gt, 0, none⟩) 2 2, .slice (some ⟨gp, 0, none⟩) 2 3] (by rfl) rfl rfl (by simp only [List.map_toArray, List.map_cons, List.map_nil]; rfl) ?_
 refine (route_Valid.calls 40 (some ⟨g4, 0, none⟩) 3 alv_t3 (some ⟨gt, 0, none⟩) 2 [false, false] (some ⟨gp, 0, none⟩) 3 (alv_aP.take 2) false _ (alv_c_3 g4_E.out) (by decide) (alv_c_2 E5.out) (by decide) (Kd.C_take (m := 2) (alv_c_P E4.out) (by decide)) (by decide) alv_v_v3).mono ?_
 rintro e_ wz ⟨rfl, hb⟩
 have nE1_ := Aside0.mk (blk_below E1.out hb)
 have nE2_ := Aside0.mk (blk_below E2.out hb)
 have nE3_ := Aside0.mk (blk_below E3.out hb)
 have nE4_ := Aside0.mk (blk_below E4.out hb)
 have nE5_ := Aside0.mk (blk_below E5.out hb)
 have nHB5_ := Aside0.mk (below_step HB5.out hb)
 clear hb E1 E2 E3 E4 E5 HB5
 have E1 := nE1_
 have E2 := nE2_
 have E3 := nE3_
 have E4 := nE4_
 have E5 := nE5_
 have HB5 := nHB5_
 clear nE1_ nE2_ nE3_ nE4_ nE5_ nHB5_
 refine ⟨_, rfl, ?_⟩
 refine hK.out _ _ trivial (fun hHeld => ?_)
 clear hK K
 refine norm_ (a' := ?_) ?_ ?_
 rotate_left
 ·show Act.put _ (some 55) _ = _
  simp only [Act.put, List.setIfInBounds_toArray, List.set_cons_zero, List.set_cons_succ, i64_w, i32_w]
  rfl
 refine pure_ (i := 34) (N := some 56) (v := ?_) (a' := ?_) #[true, true, true, true, true, true, true, true, true, true, true, true, true, true, true, true, true, true, true, true, true, true, true, true, true, true, true, true, true, true, true, true, true, true, true, false, false, false, false, false, false, false, false, false, false, false, false, false, false, false, false, false, false, false, false, false, false, false, false, false, false, false, false, false, false, false, false, false, false, false, false, false] rfl rfl (any_of HT_.out (by kernel_rfl)) (fun _ _ _ h => h) (Or.inl ⟨by rfl, ?_⟩) ?_ ?_
 rotate_left
 ·intro w'
  go_simp
  with_reducible rfl
 rotate_left
 ·simp only [Act.put, List.setIfInBounds_toArray, List.set_cons_zero, List.set_cons_succ, i64_w, i32_w]
  rfl
 refine pure_ (i := 35) (N := some 57) (v := ?_) (a' := ?_) #[true, true, true, true, true, true, true, true, true, true, true, true, true, true, true, true, true, true, true, true, true, true, true, true, true, true, true, true, true, true, true, true, true, true, true, true, false, false, false, false, false, false, false, false, false, false, false, false, false, false, false, false, false, false, false, false, false, false, false, false, false, false, false, false, false, false, false, false, false, false, false, false] rfl rfl (any_of HT_.out (by kernel_rfl)) (fun _ _ _ h => h) (Or.inl ⟨by rfl, ?_⟩) ?_ ?_
 rotate_left
 ·intro w'
  go_simp
  with_reducible rfl
 rotate_left
 ·simp only [Act.put, List.setIfInBounds_toArray, List.set_cons_zero, List.set_cons_succ, i64_w, i32_w]
  rfl
 refine pure_ (i := 36) (N := some 58) (v := ?_) (a' := ?_) #[true, true, true, true, true, true, true, true, true, true, true, true, true, true, true, true, true, true, true, true, true, true, true, true, true, true, true, true, true, true, true, true, true, true, true, true, true, false, false, false, false, false, false, false, false, false, false, false, false, false, false, false, false, false, false, false, false, false, false, false, false, false, false, false, false, false, false, false, false, false, false, false] rfl rfl (any_of HT_.out (by kernel_rfl)) (fun _ _ _ h => h) (Or.inl ⟨by rfl, ?_⟩) ?_ ?_
 rotate_left
 ·intro w'
  go_simp
  with_reducible rfl
 rotate_left
 ·simp only [Act.put, List.setIfInBounds_toArray, List.set_cons_zero, List.set_cons_succ, i64_w, i32_w]
  rfl
 refine pure_ (i := 37) (N := some 59) (v := ?_) (a' := ?_) #[true, true, true, true, true, true, true, true, true, true, true, true, true, true, true, true, true, true, true, true, true, true, true, true, true, true, true, true, true, true, true, true, true, true, true, true, true, true, false, false, false, false, false, false, false, false, false, false, false, false, false, false, false, false, false, false, false, false, false, false, false, false, false, false, false, false, false, false, false, false, false, false] rfl rfl (any_of HT_.out (by kernel_rfl)) (fun _ _ _ h => h) (Or.inl ⟨by rfl, ?_⟩) ?_ ?_
 rotate_left
 ·intro w'
  go_simp
  with_reducible rfl
 rotate_left
 ·simp only [Act.put, List.setIfInBounds_toArray, List.set_cons_zero, List.set_cons_succ, i64_w, i32_w]
  rfl
 refine one_ (i := 38) (N := some 60) #[true, true, true, true, true, true, true, true, true, true, true, true, true, true, true, true, true, true, true, true, true, true, true, true, true, true, true, true, true, true, true, true, true, true, true, true, true, true, true, false, false, false, false, false, false, false, false, false, false, false, false, false, false, false, false, false, false, false, false, false, false, false, false, false, false, false, false, false, false, false, false, false] rfl rfl (one_of HT_.out (by kernel_rfl)) (by decide) (fun K hK => ?_)
 refine goes_ Try.func16 (by kernel_rfl) rfl #[.slice (some ⟨gp, 0, none⟩) 3 3] (by rfl) rfl rfl (by simp only [List.map_toArray, List.map_cons, List.map_nil]; rfl) ?_
 refine (route_End.calls (some ⟨gp, 0, none⟩) 3 alv_aP 300 _ (alv_c_P E4.out) (by decide) alv_v_e).mono ?_
 rintro e_ wz ⟨rfl, hb⟩
 have nE1_ := Aside0.mk (blk_below E1.out hb)
 have nE2_ := Aside0.mk (blk_below E2.out hb)
 have nE3_ := Aside0.mk (blk_below E3.out hb)
 have nE4_ := Aside0.mk (blk_below E4.out hb)
 have nE5_ := Aside0.mk (blk_below E5.out hb)
 have nHB5_ := Aside0.mk (below_step HB5.out hb)
 clear hb E1 E2 E3 E4 E5 HB5
 have E1 := nE1_
 have E2 := nE2_
 have E3 := nE3_
 have E4 := nE4_
 have E5 := nE5_
 have HB5 := nHB5_
 clear nE1_ nE2_ nE3_ nE4_ nE5_ nHB5_
 refine ⟨_, rfl, ?_⟩
 refine hK.out _ _ trivial (fun hHeld => ?_)
 clear hK K
 refine norm_ (a' := ?_) ?_ ?_
 rotate_left
 ·show Act.put _ (some 60) _ = _
  simp only [Act.put, List.setIfInBounds_toArray, List.set_cons_zero, List.set_cons_succ, i64_w, i32_w]
  rfl
 refine pure_ (i := 39) (N := some 61) (v := ?_) (a' := ?_) #[true, true, true, true, true, true, true, true, true, true, true, true, true, true, true, true, true, true, true, true, true, true, true, true, true, true, true, true, true, true, true, true, true, true, true, true, true, true, true, true, false, false, false, false, false, false, false, false, false, false, false, false, false, false, false, false, false, false, false, false, false, false, false, false, false, false, false, false, false, false, false, false] rfl rfl (any_of HT_.out (by kernel_rfl)) (fun _ _ _ h => h) (Or.inl ⟨by rfl, ?_⟩) ?_ ?_
 rotate_left
 ·intro w'
  go_simp
  with_reducible rfl
 rotate_left
 ·simp only [Act.put, List.setIfInBounds_toArray, List.set_cons_zero, List.set_cons_succ, i64_w, i32_w]
  rfl
 refine pure_ (i := 40) (N := some 62) (v := ?_) (a' := ?_) #[true, true, true, true, true, true, true, true, true, true, true, true, true, true, true, true, true, true, true, true, true, true, true, true, true, true, true, true, true, true, true, true, true, true, true, true, true, true, true, true, true, false, false, false, false, false, false, false, false, false, false, false, false, false, false, false, false, false, false, false, false, false, false, false, false, false, false, false, false, false, false, false] rfl rfl (any_of HT_.out (by kernel_rfl)) (fun _ _ _ h => h) (Or.inl ⟨by rfl, ?_⟩) ?_ ?_
 rotate_left
 ·intro w'
  go_simp
  with_reducible rfl
 rotate_left
 ·simp only [Act.put, List.setIfInBounds_toArray, List.set_cons_zero, List.set_cons_succ, i64_w, i32_w]
  rfl
 refine pure_ (i := 41) (N := some 63) (v := ?_) (a' := ?_) #[true, true, true, true, true, true, true, true, true, true, true, true, true, true, true, true, true, true, true, true, true, true, true, true, true, true, true, true, true, true, true, true, true, true, true, true, true, true, true, true, true, true, false, false, false, false, false, false, false, false, false, false, false, false, false, false, false, false, false, false, false, false, false, false, false, false, false, false, false, false, false, false] rfl rfl (any_of HT_.out (by kernel_rfl)) (fun _ _ _ h => h) (Or.inl ⟨by rfl, ?_⟩) ?_ ?_
 rotate_left
 ·intro w'
  go_simp
  with_reducible rfl
 rotate_left
 ·simp only [Act.put, List.setIfInBounds_toArray, List.set_cons_zero, List.set_cons_succ, i64_w, i32_w]
  rfl
 refine pure_ (i := 43) (N := some 65) (v := ?_) (a' := ?_) #[true, true, true, true, true, true, true, true, true, true, true, true, true, true, true, true, true, true, true, true, true, true, true, true, true, true, true, true, true, true, true, true, true, true, true, true, true, true, true, true, true, true, false, true, false, false, false, false, false, false, false, false, false, false, false, false, false, false, false, false, false, false, false, false, false, false, false, false, false, false, false, false] rfl rfl (any_of HT_.out (by kernel_rfl)) (fun _ _ _ h => h) (Or.inl ⟨by rfl, ?_⟩) ?_ ?_
 rotate_left
 ·intro w'
  go_simp
  with_reducible rfl
 rotate_left
 ·simp only [Act.put, List.setIfInBounds_toArray, List.set_cons_zero, List.set_cons_succ, i64_w, i32_w]
  rfl
 refine one_ (i := 42) (N := some 64) #[true, true, true, true, true, true, true, true, true, true, true, true, true, true, true, true, true, true, true, true, true, true, true, true, true, true, true, true, true, true, true, true, true, true, true, true, true, true, true, true, true, true, true, true, false, false, false, false, false, false, false, false, false, false, false, false, false, false, false, false, false, false, false, false, false, false, false, false, false, false, false, false] rfl rfl (one_of HT_.out (by kernel_rfl)) (by decide) (fun K hK => ?_)
 refine goes_ Try.func28 (by kernel_rfl) rfl #[] (by rfl) rfl rfl (by simp only [List.map_toArray, List.map_cons, List.map_nil]) ?_
 refine (three_calls _).mono ?_
 rintro e_ wz ⟨g5, rfl, hg_, h3_, hb⟩
 have g5_E := Aside0.mk h3_
 clear h3_ hg_
 have nE1_ := Aside0.mk (blk_below E1.out hb)
 have nE2_ := Aside0.mk (blk_below E2.out hb)
 have nE3_ := Aside0.mk (blk_below E3.out hb)
 have nE4_ := Aside0.mk (blk_below E4.out hb)
 have nE5_ := Aside0.mk (blk_below E5.out hb)
 have nHB5_ := Aside0.mk (below_step HB5.out hb)
 clear hb E1 E2 E3 E4 E5 HB5
 have E1 := nE1_
 have E2 := nE2_
 have E3 := nE3_
 have E4 := nE4_
 have E5 := nE5_
 have HB5 := nHB5_
 clear nE1_ nE2_ nE3_ nE4_ nE5_ nHB5_
 refine ⟨_, rfl, ?_⟩
 refine hK.out _ _ trivial (fun hHeld => ?_)
 clear hK K
 refine norm_ (a' := ?_) ?_ ?_
 rotate_left
 ·show Act.put _ (some 64) _ = _
  simp only [Act.put, List.setIfInBounds_toArray, List.set_cons_zero, List.set_cons_succ, i64_w, i32_w]
  rfl
 refine one_ (i := 44) (N := some 66) #[true, true, true, true, true, true, true, true, true, true, true, true, true, true, true, true, true, true, true, true, true, true, true, true, true, true, true, true, true, true, true, true, true, true, true, true, true, true, true, true, true, true, true, true, true, false, false, false, false, false, false, false, false, false, false, false, false, false, false, false, false, false, false, false, false, false, false, false, false, false, false, false] rfl rfl (one_of HT_.out (by kernel_rfl)) (by decide) (fun K hK => ?_)
 refine goes_ Try.func14 (by kernel_rfl) rfl #[.slice (some ⟨g5, 0, none⟩) 3 3, .slice (some ⟨gt, 0, none⟩) 2 2] (by rfl) rfl rfl (by simp only [List.map_toArray, List.map_cons, List.map_nil]; rfl) ?_
 refine (route_Least.calls (some ⟨g5, 0, none⟩) 3 alv_t3 (some ⟨gt, 0, none⟩) 2 [false, false] 300 _ (alv_c_3 g5_E.out) (by decide) (alv_c_2 E5.out) (by decide) alv_v_l1).mono ?_
 rintro e_ wz ⟨rfl, hb⟩
 have nE1_ := Aside0.mk (blk_below E1.out hb)
 have nE2_ := Aside0.mk (blk_below E2.out hb)
 have nE3_ := Aside0.mk (blk_below E3.out hb)
 have nE4_ := Aside0.mk (blk_below E4.out hb)
 have nE5_ := Aside0.mk (blk_below E5.out hb)
 have nHB5_ := Aside0.mk (below_step HB5.out hb)
 clear hb E1 E2 E3 E4 E5 HB5
 have E1 := nE1_
 have E2 := nE2_
 have E3 := nE3_
 have E4 := nE4_
 have E5 := nE5_
 have HB5 := nHB5_
 clear nE1_ nE2_ nE3_ nE4_ nE5_ nHB5_
 refine ⟨_, rfl, ?_⟩
 refine hK.out _ _ trivial (fun hHeld => ?_)
 clear hK K
 refine norm_ (a' := ?_) ?_ ?_
 rotate_left
 ·show Act.put _ (some 66) _ = _
  simp only [Act.put, List.setIfInBounds_toArray, List.set_cons_zero, List.set_cons_succ, i64_w, i32_w]
  rfl
 refine pure_ (i := 45) (N := some 67) (v := ?_) (a' := ?_) #[true, true, true, true, true, true, true, true, true, true, true, true, true, true, true, true, true, true, true, true, true, true, true, true, true, true, true, true, true, true, true, true, true, true, true, true, true, true, true, true, true, true, true, true, true, true, false, false, false, false, false, false, false, false, false, false, false, false, false, false, false, false, false, false, false, false, false, false, false, false, false, false] rfl rfl (any_of HT_.out (by kernel_rfl)) (fun _ _ _ h => h) (Or.inl ⟨by rfl, ?_⟩) ?_ ?_
 rotate_left
 ·intro w'
  go_simp
  with_reducible rfl
 rotate_left
 ·simp only [Act.put, List.setIfInBounds_toArray, List.set_cons_zero, List.set_cons_succ, i64_w, i32_w]
  rfl
 refine pure_ (i := 46) (N := some 68) (v := ?_) (a' := ?_) #[true, true, true, true, true, true, true, true, true, true, true, true, true, true, true, true, true, true, true, true, true, true, true, true, true, true, true, true, true, true, true, true, true, true, true, true, true, true, true, true, true, true, true, true, true, true, true, false, false, false, false, false, false, false, false, false, false, false, false, false, false, false, false, false, false, false, false, false, false, false, false, false] rfl rfl (any_of HT_.out (by kernel_rfl)) (fun _ _ _ h => h) (Or.inl ⟨by rfl, ?_⟩) ?_ ?_
 rotate_left
 ·intro w'
  go_simp
  with_reducible rfl
 rotate_left
 ·simp only [Act.put, List.setIfInBounds_toArray, List.set_cons_zero, List.set_cons_succ, i64_w, i32_w]
  rfl
 refine pure_ (i := 47) (N := some 69) (v := ?_) (a' := ?_) #[true, true, true, true, true, true, true, true, true, true, true, true, true, true, true, true, true, true, true, true, true, true, true, true, true, true, true, true, true, true, true, true, true, true, true, true, true, true, true, true, true, true, true, true, true, true, true, true, false, false, false, false, false, false, false, false, false, false, false, false, false, false, false, false, false, false, false, false, false, false, false, false] rfl rfl (any_of HT_.out (by kernel_rfl)) (fun _ _ _ h => h) (Or.inl ⟨by rfl, ?_⟩) ?_ ?_
 rotate_left
 ·intro w'
  go_simp
  with_reducible rfl
 rotate_left
 ·simp only [Act.put, List.setIfInBounds_toArray, List.set_cons_zero, List.set_cons_succ, i64_w, i32_w]
  rfl
 refine pure_ (i := 48) (N := some 70) (v := ?_) (a' := ?_) #[true, true, true, true, true, true, true, true, true, true, true, true, true, true, true, true, true, true, true, true, true, true, true, true, true, true, true, true, true, true, true, true, true, true, true, true, true, true, true, true, true, true, true, true, true, true, true, true, true, false, false, false, false, false, false, false, false, false, false, false, false, false, false, false, false, false, false, false, false, false, false, false] rfl rfl (any_of HT_.out (by kernel_rfl)) (fun _ _ _ h => h) (Or.inl ⟨by rfl, ?_⟩) ?_ ?_
 rotate_left
 ·intro w'
  go_simp
  with_reducible rfl
 rotate_left
 ·simp only [Act.put, List.setIfInBounds_toArray, List.set_cons_zero, List.set_cons_succ, i64_w, i32_w]
  rfl
 refine pure_ (i := 49) (N := some 71) (v := ?_) (a' := ?_) #[true, true, true, true, true, true, true, true, true, true, true, true, true, true, true, true, true, true, true, true, true, true, true, true, true, true, true, true, true, true, true, true, true, true, true, true, true, true, true, true, true, true, true, true, true, true, true, true, true, true, false, false, false, false, false, false, false, false, false, false, false, false, false, false, false, false, false, false, false, false, false, false] rfl rfl (any_of HT_.out (by kernel_rfl)) (fun _ _ _ h => h) (Or.inl ⟨by rfl, ?_⟩) ?_ ?_
 rotate_left
 ·intro w'
  go_simp
  with_reducible rfl
 rotate_left
 ·simp only [Act.put, List.setIfInBounds_toArray, List.set_cons_zero, List.set_cons_succ, i64_w, i32_w]
  rfl
 refine one_ (i := 50) (N := some 72) #[true, true, true, true, true, true, true, true, true, true, true, true, true, true, true, true, true, true, true, true, true, true, true, true, true, true, true, true, true, true, true, true, true, true, true, true, true, true, true, true, true, true, true, true, true, true, true, true, true, true, true, false, false, false, false, false, false, false, false, false, false, false, false, false, false, false, false, false, false, false, false, false] rfl rfl (one_of HT_.out (by kernel_rfl)) (by decide) (fun K hK => ?_)
 refine goes_ Try.func14 (by kernel_rfl) rfl #[.slice (some ⟨g1, 0, none⟩) 3 3, .slice (some ⟨gt, 0, none⟩) 2 2] (by rfl) rfl rfl (by simp only [List.map_toArray, List.map_cons, List.map_nil]; rfl) ?_
 refine (route_Least.calls (some ⟨g1, 0, none⟩) 3 alv_aL (some ⟨gt, 0, none⟩) 2 [false, false] 500 _ (alv_c_L E1.out E3.out) (by decide) (alv_c_2 E5.out) (by decide) alv_v_l2).mono ?_
 rintro e_ wz ⟨rfl, hb⟩
 have nE1_ := Aside0.mk (blk_below E1.out hb)
 have nE2_ := Aside0.mk (blk_below E2.out hb)
 have nE3_ := Aside0.mk (blk_below E3.out hb)
 have nE4_ := Aside0.mk (blk_below E4.out hb)
 have nE5_ := Aside0.mk (blk_below E5.out hb)
 have nHB5_ := Aside0.mk (below_step HB5.out hb)
 clear hb E1 E2 E3 E4 E5 HB5
 have E1 := nE1_
 have E2 := nE2_
 have E3 := nE3_
 have E4 := nE4_
 have E5 := nE5_
 have HB5 := nHB5_
 clear nE1_ nE2_ nE3_ nE4_ nE5_ nHB5_
 refine ⟨_, rfl, ?_⟩
 refine hK.out _ _ trivial (fun hHeld => ?_)
 clear hK K
 refine norm_ (a' := ?_) ?_ ?_
 rotate_left
 ·show Act.put _ (some 72) _ = _
  simp only [Act.put, List.setIfInBounds_toArray, List.set_cons_zero, List.set_cons_succ, i64_w, i32_w]
  rfl
 refine pure_ (i := 51) (N := some 73) (v := ?_) (a' := ?_) #[true, true, true, true, true, true, true, true, true, true, true, true, true, true, true, true, true, true, true, true, true, true, true, true, true, true, true, true, true, true, true, true, true, true, true, true, true, true, true, true, true, true, true, true, true, true, true, true, true, true, true, true, false, false, false, false, false, false, false, false, false, false, false, false, false, false, false, false, false, false, false, false] rfl rfl (any_of HT_.out (by kernel_rfl)) (fun _ _ _ h => h) (Or.inl ⟨by rfl, ?_⟩) ?_ ?_
 rotate_left
 ·intro w'
  go_simp
  with_reducible rfl
 rotate_left
 ·simp only [Act.put, List.setIfInBounds_toArray, List.set_cons_zero, List.set_cons_succ, i64_w, i32_w]
  rfl
 refine pure_ (i := 52) (N := some 74) (v := ?_) (a' := ?_) #[true, true, true, true, true, true, true, true, true, true, true, true, true, true, true, true, true, true, true, true, true, true, true, true, true, true, true, true, true, true, true, true, true, true, true, true, true, true, true, true, true, true, true, true, true, true, true, true, true, true, true, true, true, false, false, false, false, false, false, false, false, false, false, false, false, false, false, false, false, false, false, false] rfl rfl (any_of HT_.out (by kernel_rfl)) (fun _ _ _ h => h) (Or.inl ⟨by rfl, ?_⟩) ?_ ?_
 rotate_left
 ·intro w'
  go_simp
  with_reducible rfl
 rotate_left
 ·simp only [Act.put, List.setIfInBounds_toArray, List.set_cons_zero, List.set_cons_succ, i64_w, i32_w]
  rfl
 refine pure_ (i := 53) (N := some 75) (v := ?_) (a' := ?_) #[true, true, true, true, true, true, true, true, true, true, true, true, true, true, true, true, true, true, true, true, true, true, true, true, true, true, true, true, true, true, true, true, true, true, true, true, true, true, true, true, true, true, true, true, true, true, true, true, true, true, true, true, true, true, false, false, false, false, false, false, false, false, false, false, false, false, false, false, false, false, false, false] rfl rfl (any_of HT_.out (by kernel_rfl)) (fun _ _ _ h => h) (Or.inl ⟨by rfl, ?_⟩) ?_ ?_
 rotate_left
 ·intro w'
  go_simp
  with_reducible rfl
 rotate_left
 ·simp only [Act.put, List.setIfInBounds_toArray, List.set_cons_zero, List.set_cons_succ, i64_w, i32_w]
  rfl
 refine pure_ (i := 54) (N := some 76) (v := ?_) (a' := ?_) #[true, true, true, true, true, true, true, true, true, true, true, true, true, true, true, true, true, true, true, true, true, true, true, true, true, true, true, true, true, true, true, true, true, true, true, true, true, true, true, true, true, true, true, true, true, true, true, true, true, true, true, true, true, true, true, false, false, false, false, false, false, false, false, false, false, false, false, false, false, false, false, false] rfl rfl (any_of HT_.out (by kernel_rfl)) (fun _ _ _ h => h) (Or.inl ⟨by rfl, ?_⟩) ?_ ?_
 rotate_left
 ·intro w'
  go_simp
  with_reducible rfl
 rotate_left
 ·simp only [Act.put, List.setIfInBounds_toArray, List.set_cons_zero, List.set_cons_succ, i64_w, i32_w]
  rfl
 refine one_ (i := 55) (N := some 77) #[true, true, true, true, true, true, true, true, true, true, true, true, true, true, true, true, true, true, true, true, true, true, true, true, true, true, true, true, true, true, true, true, true, true, true, true, true, true, true, true, true, true, true, true, true, true, true, true, true, true, true, true, true, true, true, true, false, false, false, false, false, false, false, false, false, false, false, false, false, false, false, false] rfl rfl (one_of HT_.out (by kernel_rfl)) (by decide) (fun K hK => ?_)
 refine value_ (w1 := wz.alloc (.cells #[.bool false, .bool true] 4)) (v := .slice (some ⟨wz.heap.size, 0, none⟩) 2 2) (by rfl) rfl ?_ ?_
 ·go_simp
  try rfl
 have hb := below_alloc (Below.refl wz.heap.size wz) (.cells #[.bool false, .bool true] 4)
 have g6_E := Aside0.mk (heap_alloc_new wz (.cells #[.bool false, .bool true] 4))
 have nE1_ := Aside0.mk (blk_below E1.out hb)
 have nE2_ := Aside0.mk (blk_below E2.out hb)
 have nE3_ := Aside0.mk (blk_below E3.out hb)
 have nE4_ := Aside0.mk (blk_below E4.out hb)
 have nE5_ := Aside0.mk (blk_below E5.out hb)
 have nHB5_ := Aside0.mk (below_step HB5.out hb)
 clear hb E1 E2 E3 E4 E5 HB5
 have E1 := nE1_
 have E2 := nE2_
 have E3 := nE3_
 have E4 := nE4_
 have E5 := nE5_
 have HB5 := nHB5_
 clear nE1_ nE2_ nE3_ nE4_ nE5_ nHB5_
 generalize wz.heap.size = g6 at g6_E ⊢
 generalize wz.alloc (.cells #[.bool false, .bool true] 4) = wq at E1 E2 E3 E4 E5 HB5 g6_E ⊢
 refine hK.out _ _ trivial (fun hHeld => ?_)
 clear hK K
 refine norm_ (a' := ?_) ?_ ?_
 rotate_left
 ·show Act.put _ (some 77) _ = _
  simp only [Act.put, List.setIfInBounds_toArray, List.set_cons_zero, List.set_cons_succ, i64_w, i32_w]
  rfl
 refine one_ (i := 56) (N := some 78) #[true, true, true, true, true, true, true, true, true, true, true, true, true, true, true, true, true, true, true, true, true, true, true, true, true, true, true, true, true, true, true, true, true, true, true, true, true, true, true, true, true, true, true, true, true, true, true, true, true, true, true, true, true, true, true, true, true, false, false, false, false, false, false, false, false, false, false, false, false, false, false, false] rfl rfl (one_of HT_.out (by kernel_rfl)) (by decide) (fun K hK => ?_)
 refine goes_ Try.func14 (by kernel_rfl) rfl #[.slice (some ⟨g2, 0, none⟩) 3 3, .slice (some ⟨g6, 0, none⟩) 2 2] (by rfl) rfl rfl (by simp only [List.map_toArray, List.map_cons, List.map_nil]; rfl) ?_
 refine (route_Least.calls (some ⟨g2, 0, none⟩) 3 alv_aW (some ⟨g6, 0, none⟩) 2 [false, true] 500 _ (alv_c_W E2.out) (by decide) (alv_c_2 g6_E.out) (by decide) alv_v_l3).mono ?_
 rintro e_ wz ⟨rfl, hb⟩
 have nE1_ := Aside0.mk (blk_below E1.out hb)
 have nE2_ := Aside0.mk (blk_below E2.out hb)
 have nE3_ := Aside0.mk (blk_below E3.out hb)
 have nE4_ := Aside0.mk (blk_below E4.out hb)
 have nE5_ := Aside0.mk (blk_below E5.out hb)
 have nHB5_ := Aside0.mk (below_step HB5.out hb)
 clear hb E1 E2 E3 E4 E5 HB5
 have E1 := nE1_
 have E2 := nE2_
 have E3 := nE3_
 have E4 := nE4_
 have E5 := nE5_
 have HB5 := nHB5_
 clear nE1_ nE2_ nE3_ nE4_ nE5_ nHB5_
 refine ⟨_, rfl, ?_⟩
 refine hK.out _ _ trivial (fun hHeld => ?_)
 clear hK K
 refine norm_ (a' := ?_) ?_ ?_
 rotate_left
 ·show Act.put _ (some 78) _ = _
  simp only [Act.put, List.setIfInBounds_toArray, List.set_cons_zero, List.set_cons_succ, i64_w, i32_w]
  rfl
 refine pure_ (i := 57) (N := some 79) (v := ?_) (a' := ?_) #[true, true, true, true, true, true, true, true, true, true, true, true, true, true, true, true, true, true, true, true, true, true, true, true, true, true, true, true, true, true, true, true, true, true, true, true, true, true, true, true, true, true, true, true, true, true, true, true, true, true, true, true, true, true, true, true, true, true, false, false, false, false, false, false, false, false, false, false, false, false, false, false] rfl rfl (any_of HT_.out (by kernel_rfl)) (fun _ _ _ h => h) (Or.inl ⟨by rfl, ?_⟩) ?_ ?_
 rotate_left
 ·intro w'
  go_simp
  with_reducible rfl
 rotate_left
 ·simp only [Act.put, List.setIfInBounds_toArray, List.set_cons_zero, List.set_cons_succ, i64_w, i32_w]
  rfl
 refine pure_ (i := 58) (N := some 80) (v := ?_) (a' := ?_) #[true, true, true, true, true, true, true, true, true, true, true, true, true, true, true, true, true, true, true, true, true, true, true, true, true, true, true, true, true, true, true, true, true, true, true, true, true, true, true, true, true, true, true, true, true, true, true, true, true, true, true, true, true, true, true, true, true, true, true, false, false, false, false, false, false, false, false, false, false, false, false, false] rfl rfl (any_of HT_.out (by kernel_rfl)) (fun _ _ _ h => h) (Or.inl ⟨by rfl, ?_⟩) ?_ ?_
 rotate_left
 ·intro w'
  go_simp
  with_reducible rfl
 rotate_left
 ·simp only [Act.put, List.setIfInBounds_toArray, List.set_cons_zero, List.set_cons_succ, i64_w, i32_w]
  rfl
 refine pure_ (i := 59) (N := some 81) (v := ?_) (a' := ?_) #[true, true, true, true, true, true, true, true, true, true, true, true, true, true, true, true, true, true, true, true, true, true, true, true, true, true, true, true, true, true, true, true, true, true, true, true, true, true, true, true, true, true, true, true, true, true, true, true, true, true, true, true, true, true, true, true, true, true, true, true, false, false, false, false, false, false, false, false, false, false, false, false] rfl rfl (any_of HT_.out (by kernel_rfl)) (fun _ _ _ h => h) (Or.inl ⟨by rfl, ?_⟩) ?_ ?_
 rotate_left
 ·intro w'
  go_simp
  with_reducible rfl
 rotate_left
 ·simp only [Act.put, List.setIfInBounds_toArray, List.set_cons_zero, List.set_cons_succ, i64_w, i32_w]
  rfl
 refine pure_ (i := 60) (N := some 82) (v := ?_) (a' := ?_) #[true, true, true, true, true, true, true, true, true, true, true, true, true, true, true, true, true, true, true, true, true, true, true, true, true, true, true, true, true, true, true, true, true, true, true, true, true, true, true, true, true, true, true, true, true, true, true, true, true, true, true, true, true, true, true, true, true, true, true, true, true, false, false, false, false, false, false, false, false, false, false, false] rfl rfl (any_of HT_.out (by kernel_rfl)) (fun _ _ _ h => h) (Or.inl ⟨by rfl, ?_⟩) ?_ ?_
 rotate_left
 ·intro w'
  go_simp
  with_reducible rfl
 rotate_left
 ·simp only [Act.put, List.setIfInBounds_toArray, List.set_cons_zero, List.set_cons_succ, i64_w, i32_w]
  rfl
 refine one_ (i := 61) (N := some 83) #[true, true, true, true, true, true, true, true, true, true, true, true, true, true, true, true, true, true, true, true, true, true, true, true, true, true, true, true, true, true, true, true, true, true, true, true, true, true, true, true, true, true, true, true, true, true, true, true, true, true, true, true, true, true, true, true, true, true, true, true, true, true, false, false, false, false, false, false, false, false, false, false] rfl rfl (one_of HT_.out (by kernel_rfl)) (by decide) (fun K hK => ?_)
 refine goes_ Try.func14 (by kernel_rfl) rfl #[.slice none 0 0, .slice (some ⟨gt, 0, none⟩) 2 2] (by rfl) rfl rfl (by simp only [List.map_toArray, List.map_cons, List.map_nil]; rfl) ?_
 refine (route_Least.calls none 0 [] (some ⟨gt, 0, none⟩) 2 [false, false] 0 _ (Kd.C_nil _ _) (by decide) (alv_c_2 E5.out) (by decide) alv_v_l4).mono ?_
 rintro e_ wz ⟨rfl, hb⟩
 have nE1_ := Aside0.mk (blk_below E1.out hb)
 have nE2_ := Aside0.mk (blk_below E2.out hb)
 have nE3_ := Aside0.mk (blk_below E3.out hb)
 have nE4_ := Aside0.mk (blk_below E4.out hb)
 have nE5_ := Aside0.mk (blk_below E5.out hb)
 have nHB5_ := Aside0.mk (below_step HB5.out hb)
 clear hb E1 E2 E3 E4 E5 HB5
 have E1 := nE1_
 have E2 := nE2_
 have E3 := nE3_
 have E4 := nE4_
 have E5 := nE5_
 have HB5 := nHB5_
 clear nE1_ nE2_ nE3_ nE4_ nE5_ nHB5_
 refine ⟨_, rfl, ?_⟩
 refine hK.out _ _ trivial (fun hHeld => ?_)
 clear hK K
 refine norm_ (a' := ?_) ?_ ?_
 rotate_left
 ·show Act.put _ (some 83) _ = _
  simp only [Act.put, List.setIfInBounds_toArray, List.set_cons_zero, List.set_cons_succ, i64_w, i32_w]
  rfl
 refine pure_ (i := 62) (N := some 84) (v := ?_) (a' := ?_) #[true, true, true, true, true, true, true, true, true, true, true, true, true, true, true, true, true, true, true, true, true, true, true, true, true, true, true, true, true, true, true, true, true, true, true, true, true, true, true, true, true, true, true, true, true, true, true, true, true, true, true, true, true, true, true, true, true, true, true, true, true, true, true, false, false, false, false, false, false, false, false, false] rfl rfl (any_of HT_.out (by kernel_rfl)) (fun _ _ _ h => h) (Or.inl ⟨by rfl, ?_⟩) ?_ ?_
 rotate_left
 ·intro w'
  go_simp
  with_reducible rfl
 rotate_left
 ·simp only [Act.put, List.setIfInBounds_toArray, List.set_cons_zero, List.set_cons_succ, i64_w, i32_w]
  rfl
 refine pure_ (i := 63) (N := some 85) (v := ?_) (a' := ?_) #[true, true, true, true, true, true, true, true, true, true, true, true, true, true, true, true, true, true, true, true, true, true, true, true, true, true, true, true, true, true, true, true, true, true, true, true, true, true, true, true, true, true, true, true, true, true, true, true, true, true, true, true, true, true, true, true, true, true, true, true, true, true, true, true, false, false, false, false, false, false, false, false] rfl rfl (any_of HT_.out (by kernel_rfl)) (fun _ _ _ h => h) (Or.inl ⟨by rfl, ?_⟩) ?_ ?_
 rotate_left
 ·intro w'
  go_simp
  with_reducible rfl
 rotate_left
 ·simp only [Act.put, List.setIfInBounds_toArray, List.set_cons_zero, List.set_cons_succ, i64_w, i32_w]
  rfl
 refine pure_ (i := 64) (N := some 86) (v := ?_) (a' := ?_) #[true, true, true, true, true, true, true, true, true, true, true, true, true, true, true, true, true, true, true, true, true, true, true, true, true, true, true, true, true, true, true, true, true, true, true, true, true, true, true, true, true, true, true, true, true, true, true, true, true, true, true, true, true, true, true, true, true, true, true, true, true, true, true, true, true, false, false, false, false, false, false, false] rfl rfl (any_of HT_.out (by kernel_rfl)) (fun _ _ _ h => h) (Or.inl ⟨by rfl, ?_⟩) ?_ ?_
 rotate_left
 ·intro w'
  go_simp
  with_reducible rfl
 rotate_left
 ·simp only [Act.put, List.setIfInBounds_toArray, List.set_cons_zero, List.set_cons_succ, i64_w, i32_w]
  rfl
 refine pure_ (i := 65) (N := some 87) (v := ?_) (a' := ?_) #[true, true, true, true, true, true, true, true, true, true, true, true, true, true, true, true, true, true, true, true, true, true, true, true, true, true, true, true, true, true, true, true, true, true, true, true, true, true, true, true, true, true, true, true, true, true, true, true, true, true, true, true, true, true, true, true, true, true, true, true, true, true, true, true, true, true, false, false, false, false, false, false] rfl rfl (any_of HT_.out (by kernel_rfl)) (fun _ _ _ h => h) (Or.inl ⟨by rfl, ?_⟩) ?_ ?_
 rotate_left
 ·intro w'
  go_simp
  with_reducible rfl
 rotate_left
 ·simp only [Act.put, List.setIfInBounds_toArray, List.set_cons_zero, List.set_cons_succ, i64_w, i32_w]
  rfl
 refine pure_ (i := 66) (N := some 88) (v := ?_) (a' := ?_) #[true, true, true, true, true, true, true, true, true, true, true, true, true, true, true, true, true, true, true, true, true, true, true, true, true, true, true, true, true, true, true, true, true, true, true, true, true, true, true, true, true, true, true, true, true, true, true, true, true, true, true, true, true, true, true, true, true, true, true, true, true, true, true, true, true, true, true, false, false, false, false, false] rfl rfl (any_of HT_.out (by kernel_rfl)) (fun _ _ _ h => h) (Or.inl ⟨by rfl, ?_⟩) ?_ ?_
 rotate_left
 ·intro w'
  go_simp
  with_reducible rfl
 rotate_left
 ·simp only [Act.put, List.setIfInBounds_toArray, List.set_cons_zero, List.set_cons_succ, i64_w, i32_w]
  rfl
 refine one_ (i := 67) (N := some 89) #[true, true, true, true, true, true, true, true, true, true, true, true, true, true, true, true, true, true, true, true, true, true, true, true, true, true, true, true, true, true, true, true, true, true, true, true, true, true, true, true, true, true, true, true, true, true, true, true, true, true, true, true, true, true, true, true, true, true, true, true, true, true, true, true, true, true, true, true, false, false, false, false] rfl rfl (one_of HT_.out (by kernel_rfl)) (by decide) (fun K hK => ?_)
 refine goes_ Try.func13 (by kernel_rfl) rfl #[.slice (some ⟨g1, 0, none⟩) 3 3, .slice (some ⟨gt, 0, none⟩) 2 2] (by rfl) rfl rfl (by simp only [List.map_toArray, List.map_cons, List.map_nil]; rfl) ?_
 refine (route_Best.calls (some ⟨g1, 0, none⟩) 3 alv_aL (some ⟨gt, 0, none⟩) 2 [false, false] (bestV alv_aL [false, false]) _ (alv_c_L E1.out E3.out) (by decide) (alv_c_2 E5.out) (by decide) (if_pos (by decide))).mono ?_
 rintro e_ wz ⟨v0, rfl, hR, hb⟩
 obtain ⟨Ab, cb, rfl⟩ := Kd.R_slice hR
 rw [alv_v_b]
 clear hR
 have nE1_ := Aside0.mk (blk_below E1.out hb)
 have nE2_ := Aside0.mk (blk_below E2.out hb)
 have nE3_ := Aside0.mk (blk_below E3.out hb)
 have nE4_ := Aside0.mk (blk_below E4.out hb)
 have nE5_ := Aside0.mk (blk_below E5.out hb)
 have nHB5_ := Aside0.mk (below_step HB5.out hb)
 clear hb E1 E2 E3 E4 E5 HB5
 have E1 := nE1_
 have E2 := nE2_
 have E3 := nE3_
 have E4 := nE4_
 have E5 := nE5_
 have HB5 := nHB5_
 clear nE1_ nE2_ nE3_ nE4_ nE5_ nHB5_
 refine ⟨_, rfl, ?_⟩
 refine hK.out _ _ trivial (fun hHeld => ?_)
 clear hK K
 refine norm_ (a' := ?_) ?_ ?_
 rotate_left
 ·show Act.put _ (some 89) _ = _
  simp only [Act.put, List.setIfInBounds_toArray, List.set_cons_zero, List.set_cons_succ, i64_w, i32_w]
  rfl
 refine pure_ (i := 68) (N := some 90) (v := ?_) (a' := ?_) #[true, true, true, true, true, true, true, true, true, true, true, true, true, true, true, true, true, true, true, true, true, true, true, true, true, true, true, true, true, true, true, true, true, true, true, true, true, true, true, true, true, true, true, true, true, true, true, true, true, true, true, true, true, true, true, true, true, true, true, true, true, true, true, true, true, true, true, true, true, false, false, false] rfl rfl (any_of HT_.out (by kernel_rfl)) (fun _ _ _ h => h) (Or.inl ⟨by rfl, ?_⟩) ?_ ?_
 rotate_left
 ·intro w'
  go_simp
  with_reducible rfl
 rotate_left
 ·simp only [Act.put, List.setIfInBounds_toArray, List.set_cons_zero, List.set_cons_succ, i64_w, i32_w]
  rfl
 refine pure_ (i := 69) (N := some 91) (v := ?_) (a' := ?_) #[true, true, true, true, true, true, true, true, true, true, true, true, true, true, true, true, true, true, true, true, true, true, true, true, true, true, true, true, true, true, true, true, true, true, true, true, true, true, true, true, true, true, true, true, true, true, true, true, true, true, true, true, true, true, true, true, true, true, true, true, true, true, true, true, true, true, true, true, true, true, false, false] rfl rfl (any_of HT_.out (by kernel_rfl)) (fun _ _ _ h => h) (Or.inl ⟨by rfl, ?_⟩) ?_ ?_
 rotate_left
 ·intro w'
  go_simp
  with_reducible rfl
 rotate_left
 ·simp only [Act.put, List.setIfInBounds_toArray, List.set_cons_zero, List.set_cons_succ, i64_w, i32_w]
  rfl
 refine pure_ (i := 70) (N := some 92) (v := ?_) (a' := ?_) #[true, true, true, true, true, true, true, true, true, true, true, true, true, true, true, true, true, true, true, true, true, true, true, true, true, true, true, true, true, true, true, true, true, true, true, true, true, true, true, true, true, true, true, true, true, true, true, true, true, true, true, true, true, true, true, true, true, true, true, true, true, true, true, true, true, true, true, true, true, true, true, false] rfl rfl (any_of HT_.out (by kernel_rfl)) (fun _ _ _ h => h) (Or.inl ⟨by rfl, ?_⟩) ?_ ?_
 rotate_left
 ·intro w'
  go_simp
  with_reducible rfl
 rotate_left
 ·simp only [Act.put, List.setIfInBounds_toArray, List.set_cons_zero, List.set_cons_succ, i64_w, i32_w]
  rfl
 refine pure_ (i := 71) (N := some 0) (v := ?_) (a' := ?_) #[true, true, true, true, true, true, true, true, true, true, true, true, true, true, true, true, true, true, true, true, true, true, true, true, true, true, true, true, true, true, true, true, true, true, true, true, true, true, true, true, true, true, true, true, true, true, true, true, true, true, true, true, true, true, true, true, true, true, true, true, true, true, true, true, true, true, true, true, true, true, true, true] rfl rfl (any_of HT_.out (by kernel_rfl)) (fun _ _ _ h => h) (Or.inl ⟨by rfl, ?_⟩) ?_ ?_
 rotate_left
 ·intro w'
  go_simp
  with_reducible rfl
 rotate_left
 ·simp only [Act.put, List.setIfInBounds_toArray, List.set_cons_zero, List.set_cons_succ, i64_w, i32_w]
  rfl
 refine done_ (done_of HT_.out (by kernel_rfl)) ?_
 try go_wp2
 go_ret
 exact ⟨by first | rfl | (simp; done), HB5.out⟩
def skiarealaw47_alive.f : Option Bool := some true
theorem skiarealaw47_alive.calls (r : Bool) (w : World) (h : skiarealaw47_alive.f = some r) : Calls Try.prog 17 #[] w fun e w' => e = .returned (.bool r) ∧ Below w.heap.size w w' := by
 obtain rfl := Option.some.inj h
 exact alive_calls w

end Go.Proofs.Yticfgecicmgpeaa.A
