-- PRINTED by print.py (a twelfth state) out of the translation. Not trusted: Lean checks it.
import Derived.Test.YticfgecicmgpeaaAx0
import Derived.Test.YticfgecicmgpeaaAx6
namespace Go.Proofs.Yticfgecicmgpeaa.A
open Go.RowKit Go.Proofs.YticfgecicmgpeaaW.PrintWords Go.Proofs.YticfgecicmgpeaaW.PrintLast Go.Proofs.YticfgecicmgpeaaW.PrintMore
attribute [local go_sem] max2_int min2_int max_two min_two max_three min_three max_four min_four   -- for this text's walks alone
set_option linter.unusedVariables false
set_option linter.unusedSimpArgs false

/-! ### route_Best: function 13 -/
theorem made_ints (n : Nat) : madeCells (Value.int .i64 0).cells n = ((List.replicate n (0 : Int)).map (Value.int .i64)).toArray := by
 apply Array.ext
 ·rw [size_madeCells, List.size_toArray, List.length_map, List.length_replicate]
 ·intro k h1 h2
  simp [madeCells, Value.cells, Nat.mod_one]
theorem flat_made : ∀ n : Nat, flat37 (List.replicate n z37) = List.replicate (n * 4) (Value.int .i64 0)
 | 0 => rfl
 | n + 1 => by
  rw [List.replicate_succ, flat37, List.flatMap_cons, ← flat37, flat_made n, Nat.add_mul]
  rfl
theorem made_flat (n : Nat) : madeCells (Value.agg #[.int .i64 0, .int .i64 0, .int .i64 0, .int .i64 0]).cells (n * 4) = (flat37 (List.replicate n z37)).toArray := by
 apply Array.ext
 ·rw [size_madeCells, List.size_toArray, flat37_len, List.length_replicate]
 ·intro k h1 h2
  have hz : ∀ j : Nat, j < 4 → (#[Value.int .i64 0, .int .i64 0, .int .i64 0, .int .i64 0])[j]! = Value.int .i64 0 := fun j hj => by
   match j, hj with
   | 0, _ => rfl
   | 1, _ => rfl
   | 2, _ => rfl
   | 3, _ => rfl
  have h4 : k % 4 < 4 := Nat.mod_lt _ (by omega)
  simp only [flat_made, madeCells, Array.getElem_map, Array.getElem_range, List.getElem_toArray, List.getElem_replicate]
  exact hz _ h4
theorem run_make_oper {P : Program} {ρ : Operand → Value} {oi : Oper} {t : TypeId} {x y : Operand} {w w1 : World} {v : Value} (ho : oi.op = .makeSlice t x y) (h : (Instr.makeSlice t (ρ x) (ρ y)).run P w = .ok v w1) : (execOp ρ oi).run P w = .ok (.value v) w1 := by
 unfold execOp
 rw [ho]
 simp [h]
theorem make_ints (w : World) (n : Nat) (hn : n ≤ 100) : (Instr.makeSlice 32 (.int .i64 n) (.int .i64 n)).run Try.prog w = .ok (.slice (some ⟨w.heap.size, 0, none⟩) n n) (w.alloc (.cells ((List.replicate n (0 : Int)).map (Value.int .i64)).toArray 3)) := by
 obtain ⟨i0, hi, hz⟩ := Option.map_eq_some_iff.1 info3
 simp only [Prod.mk.injEq] at hz
 obtain ⟨hz0, hz1, hz2⟩ := hz
 have hr := run_make (P := Try.prog) w 32 3 i0 _ Try.underlying32 hi hz0 .i64 .i64 (n : Int) (n : Int) (by omega) (by omega) (by rw [hz2]; omega) (by omega)
 simp only [Int.toNat_natCast, hz1, Nat.mul_one] at hr
 rw [hr, made_ints]
theorem make_flat (w : World) (n : Nat) (hn : n ≤ 100) : (Instr.makeSlice 24 (.int .i64 n) (.int .i64 n)).run Try.prog w = .ok (.slice (some ⟨w.heap.size, 0, none⟩) n n) (w.alloc (.cells (flat37 (List.replicate n z37)).toArray 37)) := by
 obtain ⟨i0, hi, hz⟩ := Option.map_eq_some_iff.1 info37
 simp only [Prod.mk.injEq] at hz
 obtain ⟨hz0, hz1, hz2⟩ := hz
 have hr := run_make (P := Try.prog) w 24 37 i0 _ Try.underlying24 hi hz0 .i64 .i64 (n : Int) (n : Int) (by omega) (by omega) (by rw [hz2]; omega) (by omega)
 simp only [Int.toNat_natCast, hz1] at hr
 rw [hr, made_flat]
def bestV (l : List S34) (win : List Bool) : List S37 := if l.length = 0 then [] else (srch l win l.length 0 (List.replicate l.length z37) (List.replicate win.length 0) ([], 0)).1
def route_Best.f (l0 : List S34) (l1 : List Bool) : Option (List S37) := if l0.length ≤ 100 ∧ l1.length ≤ 100 then some (bestV l0 l1) else none
def X13.T3 : Bool × List (List Nat × List Nat) := (true, [([], []), ([], []), ([], []), ([2], [2]), ([3, 3], [3]), ([], []), ([5], [5]), ([6, 6], [6]), ([0, 1, 4, 7], [0, 1, 4, 7]), ([8], [8]), ([9, 0, 1, 2, 3, 4, 5, 6, 7, 8, 9], [9])])
def X13.B3 : List Nat := [0, 0, 0, 4, 12, 0, 32, 96, 255, 511, 1023]
theorem X13.tab3 : rtab .any (opsOf Try.f13 3) = X13.T3 := by kernel_rfl
theorem X13.bits3 : waitsOk X13.T3.2 X13.B3 = true := by kernel_rfl
set_option maxHeartbeats 4000000 in
set_option maxRecDepth 100000 in
theorem best_calls (Al Aw : Option Addr) (cl cw : Nat) (l : List S34) (win : List Bool) (w : World) (hl : Kd.C k34 w Al l.length l) (hlcl : l.length ≤ cl) (hw : Kd.C Kd.bool w Aw win.length win) (hwcw : win.length ≤ cw) (hlc : l.length ≤ 100) (hwc : win.length ≤ 100) :
  Calls Try.prog 13 #[.slice Al l.length cl, .slice Aw win.length cw] w fun e_ w' => ∃ v0_ : Value, e_ = .returned v0_ ∧ Kd.N k37 37 w' w.heap.size (fun _ => True) v0_ (bestV l win) ∧ Below w.heap.size w w' := by
 have hu50 := Try.underlying50
 have hm : l.length ≤ 9223372036854775807 := by omega
 have HL := Aside0.mk hl
 have HW := Aside0.mk hw
 clear hl hw
 by_cases h0 : l.length = 0
 ·have q0 : ((l.length : Int) == 0) = true := beq_iff_eq.mpr (by omega)
  have HV := Aside0.mk (show bestV l win = [] from if_pos h0)
  clear h0
  have HB := Aside0.mk (Below.refl w.heap.size w)
  go_enter Try.func13, Try.ntmps13
  go_wp2
  go_ret
  exact ⟨_, by first | rfl | (simp; done), by rw [HV.out]; exact Kd.N_nil _ _ _ _ _, HB.out⟩
 ·have q0 : ((l.length : Int) == 0) = false := beq_eq_false_iff_ne.mpr (by omega)
  have HV := Aside0.mk (show bestV l win = (srch l win l.length 0 (List.replicate l.length z37) (List.replicate win.length 0) ([], 0)).1 from if_neg h0)
  have H0 := Aside0.mk (Nat.pos_of_ne_zero h0)
  clear h0
  go_enter Try.func13, Try.ntmps13
  go_wp2_with fail
  have HB := Aside0.mk (below_drew (Below.refl w.heap.size w))
  refine start_ (n := 11) (S := fun w' => True) (ds := []) #[false, false, false, false, false, false, false, false, false, false, false] (by kernel_rfl) rfl rfl trivial (fun hHeld => ?_)
  refine with_tabW X13.tab3 X13.bits3 (fun HT_ HW_ => ?_)
  generalize w.drew = wd at HB hHeld ⊢
  refine pure_ (i := 0) (N := some 9) (v := ?_) (a' := ?_) #[true, false, false, false, false, false, false, false, false, false, false] rfl rfl (any_of HT_.out (by kernel_rfl)) (fun _ _ _ h => h) (Or.inl ⟨by rfl, ?_⟩) ?_ ?_
  rotate_left
  ·intro w'
   go_simp
   with_reducible rfl
  rotate_left
  ·simp only [Act.put, List.setIfInBounds_toArray, List.set_cons_zero, List.set_cons_succ, i64_w, i32_w]
   rfl
  refine pure_ (i := 1) (N := some 10) (v := ?_) (a' := ?_) #[true, true, false, false, false, false, false, false, false, false, false] rfl rfl (any_of HT_.out (by kernel_rfl)) (fun _ _ _ h => h) (Or.inl ⟨by rfl, ?_⟩) ?_ ?_
  rotate_left
  ·intro w'
   go_simp
   with_reducible rfl
  rotate_left
  ·simp only [Act.put, List.setIfInBounds_toArray, List.set_cons_zero, List.set_cons_succ, i64_w, i32_w]
   rfl
  refine pure_ (i := 2) (N := some 11) (v := ?_) (a' := ?_) #[true, true, true, false, false, false, false, false, false, false, false] rfl rfl (any_of HT_.out (by kernel_rfl)) (fun _ _ _ h => h) (Or.inl ⟨by rfl, ?_⟩) ?_ ?_
  rotate_left
  ·intro w'
   go_simp
   with_reducible rfl
  rotate_left
  ·simp only [Act.put, List.setIfInBounds_toArray, List.set_cons_zero, List.set_cons_succ, i64_w, i32_w]
   rfl
  refine pure_ (i := 3) (N := some 12) (v := ?_) (a' := ?_) #[true, true, true, true, false, false, false, false, false, false, false] rfl rfl (any_of HT_.out (by kernel_rfl)) (fun _ _ _ h => h) (Or.inl ⟨by rfl, ?_⟩) ?_ ?_
  rotate_left
  ·intro w'
   go_simp
   with_reducible rfl
  rotate_left
  ·simp only [Act.put, List.setIfInBounds_toArray, List.set_cons_zero, List.set_cons_succ, i64_w, i32_w]
   rfl
  refine pure_ (i := 5) (N := some 14) (v := ?_) (a' := ?_) #[true, true, true, true, false, true, false, false, false, false, false] rfl rfl (any_of HT_.out (by kernel_rfl)) (fun _ _ _ h => h) (Or.inl ⟨by rfl, ?_⟩) ?_ ?_
  rotate_left
  ·intro w'
   go_simp
   with_reducible rfl
  rotate_left
  ·simp only [Act.put, List.setIfInBounds_toArray, List.set_cons_zero, List.set_cons_succ, i64_w, i32_w]
   rfl
  refine pure_ (i := 6) (N := some 15) (v := ?_) (a' := ?_) #[true, true, true, true, false, true, true, false, false, false, false] rfl rfl (any_of HT_.out (by kernel_rfl)) (fun _ _ _ h => h) (Or.inl ⟨by rfl, ?_⟩) ?_ ?_
  rotate_left
  ·intro w'
   go_simp
   with_reducible rfl
  rotate_left
  ·simp only [Act.put, List.setIfInBounds_toArray, List.set_cons_zero, List.set_cons_succ, i64_w, i32_w]
   rfl
  refine join_ (σ := Nat × Nat) 3 #[true, true, true, true, true, true, true, true, false, false, false] (fun s => [(13, .slice (some ⟨s.1, 0, none⟩) win.length win.length), (16, .slice (some ⟨s.2, 0, none⟩) l.length l.length)]) (fun s w' => Below w.heap.size w w' ∧ w.heap.size ≤ s.1 ∧ w.heap.size ≤ s.2 ∧ s.1 ≠ s.2 ∧ s.1 < w'.heap.size ∧ s.2 < w'.heap.size ∧ w'.heap[s.1]? = some (.cells ((List.replicate win.length (0 : Int)).map (Value.int .i64)).toArray 3) ∧ w'.heap[s.2]? = some (.cells (flat37 (List.replicate l.length z37)).toArray 37)) ?_ ?_
  rotate_left
  ·intro hCont
   refine two_ (i := 4) (j := 7) (Ni := some 13) (Nj := some 16) #[true, true, true, true, true, true, true, false, false, false, false] #[true, true, true, true, false, true, true, true, false, false, false] rfl rfl rfl rfl (two_of HT_.out (by kernel_rfl)) (by decide) (by decide) (fun K hK => ?_) (fun K hK => ?_)
   ·skip
    refine value_ (w1 := (wd.alloc (.cells ((List.replicate win.length (0 : Int)).map (Value.int .i64)).toArray 3))) (v := .slice (some ⟨wd.heap.size, 0, none⟩) win.length win.length) (by rfl) rfl (run_make_oper rfl ?_) ?_
    ·exact make_ints _ _ (by omega)
    refine hK.out _ _ trivial (fun hHeld => ?_)
    clear hK K
    refine norm_ (a' := ?_) ?_ ?_
    rotate_left
    ·show Act.put _ (some 13) _ = _
     simp only [Act.put, List.setIfInBounds_toArray, List.set_cons_zero, List.set_cons_succ, i64_w, i32_w]
     rfl
    refine one_ (i := 7) (N := some 16) #[true, true, true, true, true, true, true, true, false, false, false] rfl rfl (one_of HT_.out (by kernel_rfl)) (by decide) (fun K hK => ?_)
    refine value_ (w1 := ((wd.alloc (.cells ((List.replicate win.length (0 : Int)).map (Value.int .i64)).toArray 3)).alloc (.cells (flat37 (List.replicate l.length z37)).toArray 37))) (v := .slice (some ⟨(wd.alloc (.cells ((List.replicate win.length (0 : Int)).map (Value.int .i64)).toArray 3)).heap.size, 0, none⟩) l.length l.length) (by rfl) rfl (run_make_oper rfl ?_) ?_
    ·exact make_flat _ _ (by omega)
    refine hK.out _ _ trivial (fun hHeld => ?_)
    clear hK K
    refine norm_ (a' := ?_) ?_ ?_
    rotate_left
    ·show Act.put _ (some 16) _ = _
     simp only [Act.put, List.setIfInBounds_toArray, List.set_cons_zero, List.set_cons_succ, i64_w, i32_w]
     rfl
    exact norm_ (by simp only [putAll, Act.put, List.setIfInBounds_toArray, List.set_cons_zero, List.set_cons_succ]) (hCont (wd.heap.size, (wd.alloc (.cells ((List.replicate win.length (0 : Int)).map (Value.int .i64)).toArray 3)).heap.size) _ ⟨below_alloc (below_alloc HB.out _) _, by simp; have := HB.out.size; omega, by simp; have := HB.out.size; omega, by simp, by simp <;> omega, by simp <;> omega, blk_alloc (heap_alloc_new wd (.cells ((List.replicate win.length (0 : Int)).map (Value.int .i64)).toArray 3)) (.cells (flat37 (List.replicate l.length z37)).toArray 37), heap_alloc_new (wd.alloc (.cells ((List.replicate win.length (0 : Int)).map (Value.int .i64)).toArray 3)) (.cells (flat37 (List.replicate l.length z37)).toArray 37)⟩)
   ·skip
    refine value_ (w1 := (wd.alloc (.cells (flat37 (List.replicate l.length z37)).toArray 37))) (v := .slice (some ⟨wd.heap.size, 0, none⟩) l.length l.length) (by rfl) rfl (run_make_oper rfl ?_) ?_
    ·exact make_flat _ _ (by omega)
    refine hK.out _ _ trivial (fun hHeld => ?_)
    clear hK K
    refine norm_ (a' := ?_) ?_ ?_
    rotate_left
    ·show Act.put _ (some 16) _ = _
     simp only [Act.put, List.setIfInBounds_toArray, List.set_cons_zero, List.set_cons_succ, i64_w, i32_w]
     rfl
    refine one_ (i := 4) (N := some 13) #[true, true, true, true, true, true, true, true, false, false, false] rfl rfl (one_of HT_.out (by kernel_rfl)) (by decide) (fun K hK => ?_)
    refine value_ (w1 := ((wd.alloc (.cells (flat37 (List.replicate l.length z37)).toArray 37)).alloc (.cells ((List.replicate win.length (0 : Int)).map (Value.int .i64)).toArray 3))) (v := .slice (some ⟨(wd.alloc (.cells (flat37 (List.replicate l.length z37)).toArray 37)).heap.size, 0, none⟩) win.length win.length) (by rfl) rfl (run_make_oper rfl ?_) ?_
    ·exact make_ints _ _ (by omega)
    refine hK.out _ _ trivial (fun hHeld => ?_)
    clear hK K
    refine norm_ (a' := ?_) ?_ ?_
    rotate_left
    ·show Act.put _ (some 13) _ = _
     simp only [Act.put, List.setIfInBounds_toArray, List.set_cons_zero, List.set_cons_succ, i64_w, i32_w]
     rfl
    exact norm_ (by simp only [putAll, Act.put, List.setIfInBounds_toArray, List.set_cons_zero, List.set_cons_succ]) (hCont ((wd.alloc (.cells (flat37 (List.replicate l.length z37)).toArray 37)).heap.size, wd.heap.size) _ ⟨below_alloc (below_alloc HB.out _) _, by simp; have := HB.out.size; omega, by simp; have := HB.out.size; omega, by simp, by simp <;> omega, by simp <;> omega, heap_alloc_new (wd.alloc (.cells (flat37 (List.replicate l.length z37)).toArray 37)) (.cells ((List.replicate win.length (0 : Int)).map (Value.int .i64)).toArray 3), blk_alloc (heap_alloc_new wd (.cells (flat37 (List.replicate l.length z37)).toArray 37)) (.cells ((List.replicate win.length (0 : Int)).map (Value.int .i64)).toArray 3)⟩)
  rintro ⟨gf, gp⟩ wm ⟨hb, hgf, hgp, hne, zf, zp, hf, hp⟩
  have hHeld : True := trivial
  have HB1 := Aside0.mk hb
  have GF := Aside0.mk hf
  have GP := Aside0.mk hp
  clear hb hf hp
  refine norm_ (a' := ?_) ?_ ?_
  rotate_left
  ·simp only [putAll, Act.put, List.setIfInBounds_toArray, List.set_cons_zero, List.set_cons_succ]
   rfl
  refine pure_ (i := 8) (N := some 17) (v := ?_) (a' := ?_) #[true, true, true, true, true, true, true, true, true, false, false] rfl rfl (any_of HT_.out (by kernel_rfl)) (fun _ _ _ h => h) (Or.inl ⟨by rfl, ?_⟩) ?_ ?_
  rotate_left
  ·intro w'
   go_simp
   with_reducible rfl
  rotate_left
  ·simp only [Act.put, List.setIfInBounds_toArray, List.set_cons_zero, List.set_cons_succ, i64_w, i32_w]
   rfl
  refine one_ (i := 9) (N := some 18) #[true, true, true, true, true, true, true, true, true, true, false] rfl rfl (one_of HT_.out (by kernel_rfl)) (by decide) (fun K hK => ?_)
  refine value_ (w1 := ?_) (v := ?_) (by rfl) rfl ?_ ?_
  rotate_left 2
  ·go_simp
   constructor
   ·rfl
   ·rfl
  refine hK.out _ _ trivial (fun hHeld => ?_)
  clear hK K
  refine norm_ (a' := ?_) ?_ ?_
  rotate_left
  ·show Act.put _ (some 18) _ = _
   simp only [Act.put, List.setIfInBounds_toArray, List.set_cons_zero, List.set_cons_succ, i64_w, i32_w]
   rfl
  refine pure_ (i := 10) (N := some 5) (v := ?_) (a' := ?_) #[true, true, true, true, true, true, true, true, true, true, true] rfl rfl (any_of HT_.out (by kernel_rfl)) (fun _ _ _ h => h) (Or.inl ⟨by rfl, ?_⟩) ?_ ?_
  rotate_left
  ·intro w'
   go_simp
   with_reducible rfl
  rotate_left
  ·simp only [Act.put, List.setIfInBounds_toArray, List.set_cons_zero, List.set_cons_succ, i64_w, i32_w]
   rfl
  refine done_ (done_of HT_.out (by kernel_rfl)) ?_
  have CP := Aside0.mk (heap_alloc_new wm (.cells #[.slice Al l.length cl, .slice Aw win.length cw, .slice (some ⟨gf, 0, none⟩) win.length win.length, .slice (some ⟨gp, 0, none⟩) l.length l.length, .slice none 0 0, .int .i64 0] 50 (0, 0)))
  have GF1 := Aside0.mk (blk_alloc GF.out (.cells #[.slice Al l.length cl, .slice Aw win.length cw, .slice (some ⟨gf, 0, none⟩) win.length win.length, .slice (some ⟨gp, 0, none⟩) l.length l.length, .slice none 0 0, .int .i64 0] 50 (0, 0)))
  have GP1 := Aside0.mk (blk_alloc GP.out (.cells #[.slice Al l.length cl, .slice Aw win.length cw, .slice (some ⟨gf, 0, none⟩) win.length win.length, .slice (some ⟨gp, 0, none⟩) l.length l.length, .slice none 0 0, .int .i64 0] 50 (0, 0)))
  have HB2 := Aside0.mk (below_alloc HB1.out (.cells #[.slice Al l.length cl, .slice Aw win.length cw, .slice (some ⟨gf, 0, none⟩) win.length win.length, .slice (some ⟨gp, 0, none⟩) l.length l.length, .slice none 0 0, .int .i64 0] 50 (0, 0)))
  have HS := Aside0.mk HB1.out.size
  have zP : wm.heap.size < (wm.alloc (.cells #[.slice Al l.length cl, .slice Aw win.length cw, .slice (some ⟨gf, 0, none⟩) win.length win.length, .slice (some ⟨gp, 0, none⟩) l.length l.length, .slice none 0 0, .int .i64 0] 50 (0, 0))).heap.size := by simp
  clear GF GP HB1
  have nPf : wm.heap.size ≠ gf := by omega
  have nPp : wm.heap.size ≠ gp := by omega
  generalize wm.alloc (.cells #[.slice Al l.length cl, .slice Aw win.length cw, .slice (some ⟨gf, 0, none⟩) win.length win.length, .slice (some ⟨gp, 0, none⟩) l.length l.length, .slice none 0 0, .int .i64 0] 50 (0, 0)) = wp at CP GF1 GP1 HB2 zP ⊢
  generalize wm.heap.size = P at CP HS zP nPf nPp zf zp ⊢
  go_wp2_with fail
  refine (search_calls w l win Al Aw cl cw P gf gp win.length l.length HL.out HW.out hlc hwc H0.out HS.out hgf hgp nPf nPp hne (Nat.le_refl _) (Nat.le_refl _) hlcl hwcw l.length hlc 0 (List.replicate l.length z37) (List.replicate win.length 0) (.slice none 0 0) 0 [] wp (by simp) (by simp) (fun i hi _ => by simp [rd_T37, List.getElem?_replicate, hi]) HB2.out CP.out GF1.out GP1.out ⟨fun _ => rfl, Kd.N_nil _ _ _ _ _⟩).mono ?_
  rintro e_ wt ⟨rfl, hfr, vb, hcp, hbv⟩
  have CP2 := Aside0.mk hcp
  have FR := Aside0.mk hfr
  have BW := Aside0.mk hbv
  have hc_ := hcp
  unfold plC at hc_
  have p0 := blk_cell hc_ 0
  have p1 := blk_cell hc_ 1
  have p2 := blk_cell hc_ 2
  have p3 := blk_cell hc_ 3
  have p4 := blk_cell hc_ 4
  have p5 := blk_cell hc_ 5
  simp only [List.getElem?_toArray, List.getElem?_cons_zero, List.getElem?_cons_succ] at p0 p1 p2 p3 p4 p5
  have zP2 := blk_lt hc_
  clear hc_ hcp hfr hbv
  go_wp2
  go_ret
  exact ⟨_, by first | rfl | (simp; done), by rw [HV.out]; exact Kd.N_mono BW.out.2 (fun _ _ => trivial), FR.out.below HB2.out (fun k hk => (show k = P from hk) ▸ HS.out)⟩
theorem N37_R {e base : Nat} {w : World} {ok : Nat → Prop} {v : Value} {xs : List S37} (h : Kd.N k37 e w base ok v xs) : Kd.R k37 e w base ok v xs := by
 obtain ⟨h0, rows, hl, ⟨_, inner, ho, hr⟩, hf⟩ := h
 refine ⟨h0, inner, by rw [← hl]; exact ho, by rw [hr.1, hl]; rfl, fun j x hj => ?_⟩
 have hjl := (List.getElem?_eq_some_iff.1 hj).1
 have hc : rows[j]? = some (rows[j]'(by omega)) := List.getElem?_eq_getElem _
 have he : (inner.drop (j * 4)).take 4 = rows[j]'(by omega) := (hr.2 j _ hc).1
 have hk := k37_open (Kd.FK_now (hf j x _ hj hc))
 show k37.M w base _ x ((inner.drop (j * 4)).take 4)
 rw [he, hk]
 exact k37_mkM w base _ x
theorem route_Best.calls (A0 : Option Addr) (c0 : Nat) (l0 : List (S34)) (A1 : Option Addr) (c1 : Nat) (l1 : List Bool) (r : List (S37)) (w : World) (hr0 : Kd.C k34 w A0 l0.length l0) (hc0 : l0.length ≤ c0) (hr1 : Kd.C Kd.bool w A1 l1.length l1) (hc1 : l1.length ≤ c1) (h : route_Best.f l0 l1 = some r) :
  Calls Try.prog 13 #[.slice A0 l0.length c0, .slice A1 l1.length c1] w fun e w' => ∃ v0_ : Value, e = .returned (v0_) ∧ Kd.R k37 37 w' w.heap.size (fun _ => True) v0_ r ∧ Below w.heap.size w w' := by
 unfold route_Best.f at h
 by_cases hl : l0.length ≤ 100 ∧ l1.length ≤ 100
 ·rw [if_pos hl] at h
  obtain rfl := Option.some.inj h
  refine (best_calls A0 A1 c0 c1 l0 l1 w hr0 hc0 hr1 hc1 hl.1 hl.2).mono ?_
  rintro e w' ⟨v, he, hN, hb⟩
  exact ⟨v, he, N37_R hN, hb⟩
 ·rw [if_neg hl] at h
  cases h

end Go.Proofs.Yticfgecicmgpeaa.A
