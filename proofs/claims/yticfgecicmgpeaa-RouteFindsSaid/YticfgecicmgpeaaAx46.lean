-- PRINTED by print.py (a twelfth state) out of the translation. Not trusted: Lean checks it.
import Derived.Test.YticfgecicmgpeaaAx0
import Derived.Test.YticfgecicmgpeaaAx6
import Derived.Test.YticfgecicmgpeaaAx7
import Derived.Test.YticfgecicmgpeaaAx45
namespace Go.Proofs.Yticfgecicmgpeaa.A
open Go.RowKit Go.Proofs.YticfgecicmgpeaaW.PrintWords Go.Proofs.YticfgecicmgpeaaW.PrintLast Go.Proofs.YticfgecicmgpeaaW.PrintMore
attribute [local go_sem] max2_int min2_int max_two min_two max_three min_three max_four min_four   -- for this text's walks alone
set_option linter.unusedVariables false
set_option linter.unusedSimpArgs false

/-! ### skiarearef47_Best: function 34 -/
def bsTo (l : List S34) : Nat → Int
 | 0 => 1
 | k + 1 => wrap64 (bsTo l k + (rd_T34 l k).f1)
def pkTo (pl : List S37) (x : Int) : Nat → List S37
 | 0 => []
 | k + 1 => if (rd_T37 pl k).f1 = x then pkTo pl x k ++ [rd_T37 pl k] else pkTo pl x k
def outTo (l : List S34) (pl : List S37) : Nat → List S37
 | 0 => []
 | i + 1 => outTo l pl i ++ pkTo pl (rd_T34 l i).f0 pl.length
def rplan (l : List S34) (win : List Bool) : List S37 := (nxt l win l.length [] ([], bsTo l l.length)).1
def rbestV (l : List S34) (win : List Bool) : List S37 := outTo l (rplan l win) l.length
theorem upTo_ind {β : Type} {f : Nat → β → β} {Q : β → Prop} (h : ∀ k b, Q b → Q (f k b)) : ∀ k b, Q b → Q (upTo f k b)
 | 0, b, hb => hb
 | k + 1, b, hb => h k _ (upTo_ind h k b hb)
theorem nxt_len (l : List S34) (win : List Bool) (hl : l.length ≤ 100) : ∀ (n : Nat) (plan : List S37) (b : List S37 × Int), plan.length + n = l.length → b.1.length ≤ 100 → (nxt l win n plan b).1.length ≤ 100
 | 0, plan, b, h, _ => by simp only [nxt]; omega
 | n + 1, plan, b, h, hb => by
  rw [nxt]
  refine upTo_ind (Q := fun b : List S37 × Int => b.1.length ≤ 100) (fun i b hb => ?_) _ _ hb
  unfold niOf
  split
  ·exact hb
  ·refine upTo_ind (Q := fun b : List S37 × Int => b.1.length ≤ 100) (fun g b hb => ?_) _ _ hb
   unfold ngOf
   split
   ·exact nxt_len l win hl n _ b (by simp; omega) hb
   ·exact hb
theorem rplan_len (l : List S34) (win : List Bool) (hl : l.length ≤ 100) : (rplan l win).length ≤ 100 := nxt_len l win hl _ _ _ (by simp) (by simp)
theorem pk_len (pl : List S37) (x : Int) : ∀ k, (pkTo pl x k).length ≤ k
 | 0 => by simp [pkTo]
 | k + 1 => by
  have := pk_len pl x k
  rw [pkTo]
  split
  ·simp; omega
  ·omega
theorem out_len (l : List S34) (pl : List S37) (hp : pl.length ≤ 100) : ∀ i, (outTo l pl i).length ≤ i * 100
 | 0 => by simp [outTo]
 | i + 1 => by
  have h1 := out_len l pl hp i
  have h2 := pk_len pl (rd_T34 l i).f0 pl.length
  rw [outTo, List.length_append]
  omega
def X34.T5 : Bool × List (List Nat × List Nat) := (true, [([], []), ([], []), ([1], [1]), ([2], [2]), ([3], [3]), ([], []), ([], []), ([5, 6], [5, 6]), ([7], [7]), ([8], [8]), ([4, 9], [4, 9]), ([0, 0, 1, 2, 3, 4, 5, 6, 7, 8, 9, 10], [0]), ([11, 0, 1, 2, 3, 4, 5, 6, 7, 8, 9, 10], [11]), ([12, 10, 0, 1, 2, 3, 4, 5, 6, 7, 8, 9, 10], [10, 12])])
def X34.B5 : List Nat := [0, 0, 2, 6, 14, 0, 0, 96, 224, 480, 1022, 2047, 4095, 8191]
theorem X34.tab5 : rtab .any (opsOf Try.f34 5) = X34.T5 := by kernel_rfl
theorem X34.bits5 : waitsOk X34.T5.2 X34.B5 = true := by kernel_rfl
def X34.T14 : Bool × List (List Nat × List Nat) := (true, [([], []), ([0], [0]), ([1], [1]), ([2], [2]), ([], []), ([3, 4], [3, 4]), ([5], [5]), ([6], [6]), ([], []), ([], []), ([8, 9], [8, 9]), ([10], [10]), ([11], [11]), ([7, 12], [7, 12])])
def X34.B14 : List Nat := [0, 1, 3, 7, 0, 31, 63, 127, 0, 0, 768, 1792, 3840, 8191]
theorem X34.tab14 : rtab .any (opsOf Try.f34 14) = X34.T14 := by kernel_rfl
theorem X34.bits14 : waitsOk X34.T14.2 X34.B14 = true := by kernel_rfl
set_option maxHeartbeats 8000000 in
set_option maxRecDepth 100000 in
theorem rbest_calls (Al Aw : Option Addr) (cl cw : Nat) (l : List S34) (win : List Bool) (w : World) (hl : Kd.C k34 w Al l.length l) (hlcl : l.length ≤ cl) (hw : Kd.C Kd.bool w Aw win.length win) (hwcw : win.length ≤ cw) (hlc : l.length ≤ 100) (hwc : win.length ≤ 100) :
  Calls Try.prog 34 #[.slice Al l.length cl, .slice Aw win.length cw] w fun e_ w' => ∃ v0_ : Value, e_ = .returned v0_ ∧ Kd.N k37 37 w' w.heap.size (fun _ => True) v0_ (rbestV l win) ∧ Below w.heap.size w w' := by
 have hu34 := Try.underlying34
 have hu37 := Try.underlying37
 have hu75 := Try.underlying75
 have HL := Aside0.mk hl
 have HW := Aside0.mk hw
 clear hl hw
 go_enter Try.func34, Try.ntmps34
 go_wp2_with fail
 have CP0 := Aside0.mk (show (w.alloc (.cells #[.slice Al l.length cl, .slice Aw win.length cw, .int .i64 1, .slice none 0 0] 75)).heap[w.heap.size]? = some (seC l Al cl win Aw cw (bsTo l 0) (.slice none 0 0)) from heap_alloc_new w _)
 have HB0 := Aside0.mk (below_alloc (Below.refl w.heap.size w) (.cells #[.slice Al l.length cl, .slice Aw win.length cw, .int .i64 1, .slice none 0 0] 75))
 generalize w.alloc (.cells #[.slice Al l.length cl, .slice Aw win.length cw, .int .i64 1, .slice none 0 0] 75) = wp at CP0 HB0 ⊢
 go_loopw [6] (fun v6 wr => ∃ i : Nat, i ≤ l.length ∧ v6 = .int .i64 i ∧ Below w.heap.size w wr ∧ wr.heap[w.heap.size]? = some (seC l Al cl win Aw cw (bsTo l i) (.slice none 0 0))) (fun v6 _ => l.length - (intOf v6).toNat)
 case atStart => exact ⟨0, Nat.zero_le _, rfl, HB0.out, CP0.out⟩
 case round =>
  clear CP0 HB0
  obtain ⟨i, hi, rfl, hb, hcp⟩ := hrel
  have HB := Aside0.mk hb
  have CP := Aside0.mk hcp
  clear hb hcp
  by_cases hlt : i < l.length
  ·obtain ⟨ai, A3, c3, eA, x0, x1, x2, x3, hci, hii⟩ := at_T34 HL.out (i : Int) (by omega) (by omega)
   subst eA
   rw [Int.toNat_natCast] at x1
   have X1 := Aside0.mk x1
   clear x0 x1 x2 x3 hci hii
   go_wp2_with fail
   have hb := below_drew (Below.refl wr.heap.size wr)
   have nCP_ := Aside0.mk (blk_below CP.out hb)
   have nHB_ := Aside0.mk (below_step HB.out hb)
   clear hb CP HB
   have CP := nCP_
   have HB := nHB_
   clear nCP_ nHB_
   refine start_ (n := 14) (S := fun w' => w'.cell? ⟨w.heap.size, 2, none⟩ = some (.int .i64 (bsTo l i)) ∧ w'.cell? ⟨(ai.add (i * 4)).block, (ai.add (i * 4)).off + 1, none⟩ = some (.int .i64 (rd_T34 l i).f1)) (ds := [13]) #[false, false, false, false, false, false, false, false, false, false, false, false, false, false] (by kernel_rfl) rfl rfl ⟨((blk_cell CP.out 2).trans rfl), ((HB.out.cell (World.block_lt_of_cell? w _ X1.out)).trans X1.out)⟩ (fun hHeld => ?_)
   refine with_tabW X34.tab5 X34.bits5 (fun HT_ HW_ => ?_)
   generalize wr.drew = wd at CP HB hHeld ⊢
   refine pure_ (i := 0) (N := some 20) (v := ?_) (a' := ?_) #[true, false, false, false, false, false, false, false, false, false, false, false, false, false] rfl rfl (any_of HT_.out (by kernel_rfl)) (fun _ _ _ h => h) (Or.inl ⟨by rfl, ?_⟩) ?_ ?_
   rotate_left
   ·intro w'
    go_simp
    with_reducible rfl
   rotate_left
   ·simp only [Act.put, List.setIfInBounds_toArray, List.set_cons_zero, List.set_cons_succ, i64_w, i32_w]
    rfl
   refine pure_ (i := 1) (N := some 21) (v := ?_) (a' := ?_) #[true, true, false, false, false, false, false, false, false, false, false, false, false, false] rfl rfl (any_of HT_.out (by kernel_rfl)) (fun _ _ _ h => h) (Or.inl ⟨by rfl, ?_⟩) ?_ ?_
   rotate_left
   ·intro w'
    go_simp
    with_reducible rfl
   rotate_left
   ·simp only [Act.put, List.setIfInBounds_toArray, List.set_cons_zero, List.set_cons_succ, i64_w, i32_w]
    rfl
   refine pure_ (i := 2) (N := some 22) (v := ?_) (a' := ?_) #[true, true, true, false, false, false, false, false, false, false, false, false, false, false] rfl rfl (any_of HT_.out (by kernel_rfl)) (fun _ _ _ h => h) (Or.inl ⟨by rfl, ?_⟩) ?_ ?_
   rotate_left
   ·intro w'
    go_simp
    with_reducible rfl
   rotate_left
   ·simp only [Act.put, List.setIfInBounds_toArray, List.set_cons_zero, List.set_cons_succ, i64_w, i32_w]
    rfl
   refine pure_ (i := 3) (N := some 23) (v := ?_) (a' := ?_) #[true, true, true, true, false, false, false, false, false, false, false, false, false, false] rfl rfl (any_of HT_.out (by kernel_rfl)) (fun _ _ _ h => h) (Or.inl ⟨by rfl, ?_⟩) ?_ ?_
   rotate_left
   ·intro w'
    go_simp
    with_reducible rfl
   rotate_left
   ·simp only [Act.put, List.setIfInBounds_toArray, List.set_cons_zero, List.set_cons_succ, i64_w, i32_w]
    rfl
   refine pure_ (i := 5) (N := some 25) (v := ?_) (a' := ?_) #[true, true, true, true, false, true, false, false, false, false, false, false, false, false] rfl rfl (any_of HT_.out (by kernel_rfl)) (fun _ _ _ h => h) (Or.inl ⟨by rfl, ?_⟩) ?_ ?_
   rotate_left
   ·intro w'
    go_simp
    with_reducible rfl
   rotate_left
   ·simp only [Act.put, List.setIfInBounds_toArray, List.set_cons_zero, List.set_cons_succ, i64_w, i32_w]
    rfl
   refine pure_ (i := 6) (N := some 26) (v := ?_) (a' := ?_) #[true, true, true, true, false, true, true, false, false, false, false, false, false, false] rfl rfl (any_of HT_.out (by kernel_rfl)) (fun _ _ _ h => h) (Or.inl ⟨by rfl, ?_⟩) ?_ ?_
   rotate_left
   ·intro w'
    go_simp
    with_reducible rfl
   rotate_left
   ·simp only [Act.put, List.setIfInBounds_toArray, List.set_cons_zero, List.set_cons_succ, i64_w, i32_w]
    rfl
   refine pure_ (i := 7) (N := some 27) (v := ?_) (a' := ?_) #[true, true, true, true, false, true, true, true, false, false, false, false, false, false] rfl rfl (any_of HT_.out (by kernel_rfl)) (fun _ _ _ h => h) (Or.inl ⟨by rfl, ?_⟩) ?_ ?_
   rotate_left
   ·intro w'
    go_simp
    with_reducible rfl
   rotate_left
   ·simp only [Act.put, List.setIfInBounds_toArray, List.set_cons_zero, List.set_cons_succ, i64_w, i32_w]
    rfl
   refine pure_ (i := 8) (N := some 28) (v := ?_) (a' := ?_) #[true, true, true, true, false, true, true, true, true, false, false, false, false, false] rfl rfl (any_of HT_.out (by kernel_rfl)) (fun _ _ _ h => h) (Or.inl ⟨by rfl, ?_⟩) ?_ ?_
   rotate_left
   ·intro w'
    go_simp
    with_reducible rfl
   rotate_left
   ·simp only [Act.put, List.setIfInBounds_toArray, List.set_cons_zero, List.set_cons_succ, i64_w, i32_w]
    rfl
   refine take_ (i := 4) (N := some 24) (v := ?_) (a' := ?_) #[true, true, true, true, true, true, true, true, true, false, false, false, false, false] rfl rfl (take_ofW HT_.out HW_.out (by kernel_rfl)) (fun _ _ _ h => h) (Or.inl ⟨by rfl, ?_⟩) hHeld ?_ ?_
   rotate_left
   ·rintro w' ⟨s0, s1⟩
    go_simp
    with_reducible rfl
   rotate_left
   ·simp only [Act.put, List.setIfInBounds_toArray, List.set_cons_zero, List.set_cons_succ, i64_w, i32_w]
    rfl
   refine take_ (i := 9) (N := some 29) (v := ?_) (a' := ?_) #[true, true, true, true, true, true, true, true, true, true, false, false, false, false] rfl rfl (take_ofW HT_.out HW_.out (by kernel_rfl)) (fun _ _ _ h => h) (Or.inl ⟨by rfl, ?_⟩) hHeld ?_ ?_
   rotate_left
   ·rintro w' ⟨s0, s1⟩
    go_simp
    with_reducible rfl
   rotate_left
   ·simp only [Act.put, List.setIfInBounds_toArray, List.set_cons_zero, List.set_cons_succ, i64_w, i32_w]
    rfl
   refine pure_ (i := 10) (N := some 30) (v := ?_) (a' := ?_) #[true, true, true, true, true, true, true, true, true, true, true, false, false, false] rfl rfl (any_of HT_.out (by kernel_rfl)) (fun _ _ _ h => h) (Or.inl ⟨by rfl, ?_⟩) ?_ ?_
   rotate_left
   ·intro w'
    go_simp
    with_reducible rfl
   rotate_left
   ·simp only [Act.put, List.setIfInBounds_toArray, List.set_cons_zero, List.set_cons_succ, i64_w, i32_w]
    rfl
   refine pure_ (i := 11) (N := some 31) (v := ?_) (a' := ?_) #[true, true, true, true, true, true, true, true, true, true, true, true, false, false] rfl rfl (any_of HT_.out (by kernel_rfl)) (fun _ _ _ h => h) (Or.inl ⟨by rfl, ?_⟩) ?_ ?_
   rotate_left
   ·intro w'
    go_simp
    with_reducible rfl
   rotate_left
   ·simp only [Act.put, List.setIfInBounds_toArray, List.set_cons_zero, List.set_cons_succ, i64_w, i32_w]
    rfl
   refine pure_ (i := 12) (N := some 32) (v := ?_) (a' := ?_) #[true, true, true, true, true, true, true, true, true, true, true, true, true, false] rfl rfl (any_of HT_.out (by kernel_rfl)) (fun _ _ _ h => h) (Or.inl ⟨by rfl, ?_⟩) ?_ ?_
   rotate_left
   ·intro w'
    go_simp
    with_reducible rfl
   rotate_left
   ·simp only [Act.put, List.setIfInBounds_toArray, List.set_cons_zero, List.set_cons_succ, i64_w, i32_w]
    rfl
   refine last_ (i := 13) (N := none) #[true, true, true, true, true, true, true, true, true, true, true, true, true, true] rfl rfl (one_of HT_.out (by kernel_rfl)) (by decide) (fun K hK => ?_)
   refine skip_ (w1 := wd.setCells w.heap.size 2 [.int .i64 (wrap64 (bsTo l i + (rd_T34 l i).f1))]) (by rfl) rfl (run_store_oper rfl ?_) ?_
   ·have h_ := CP.out
    unfold seC at h_
    exact run_store_run (P := Try.prog) (w := wd) (g := w.heap.size) (o := 2) 3 (.int .i64 (wrap64 (bsTo l i + (rd_T34 l i).f1))) [.int .i64 (wrap64 (bsTo l i + (rd_T34 l i).f1))] h_ rfl (by kernel_rfl) (by simp) (by intro q hq; simp at hq; subst hq; rfl)
   have nCP_ := Aside0.mk (show (wd.setCells w.heap.size 2 [.int .i64 (wrap64 (bsTo l i + (rd_T34 l i).f1))]).heap[w.heap.size]? = some (seC l (some ai) cl win Aw cw (bsTo l (i + 1)) (.slice none 0 0)) from blk_put CP.out 2 _ rfl)
   have nHB_ := Aside0.mk (show Below w.heap.size w (wd.setCells w.heap.size 2 [.int .i64 (wrap64 (bsTo l i + (rd_T34 l i).f1))]) from below_set HB.out (Nat.le_refl _))
   clear CP HB
   have CP := nCP_
   have HB := nHB_
   clear nCP_ nHB_
   generalize wd.setCells w.heap.size 2 [.int .i64 (wrap64 (bsTo l i + (rd_T34 l i).f1))] = ws at CP HB ⊢
   refine hK.out _ _ ?_
   clear hK K
   refine done_ (done_of HT_.out (by kernel_rfl)) ?_
   try go_wp2
   exact ⟨⟨i + 1, hlt, rfl, HB.out, CP.out⟩, by simp [intOf]; omega⟩
  ·obtain rfl : i = l.length := by omega
   go_wp2_with fail
   have hP0 : w.heap.size ≤ w.heap.size := Nat.le_refl _
   refine (next_calls w l win Al Aw cl cw w.heap.size HL.out HW.out hlc hwc hP0 hlcl hwcw l.length [] (.slice none 0 0) (bsTo l l.length) [] (.slice none 0 0) wr (by simp) (fun k hk => absurd hk (by simp)) HB.out CP.out (Kd.N_nil _ _ _ _ _) (Kd.N_nil _ _ _ _ _)).mono ?_
   rintro e_ wt ⟨rfl, hfr, vb, hcp, hbv⟩
   have nHB_ := Aside0.mk (hfr.below HB.out (fun k hk => (show k = w.heap.size from hk) ▸ Nat.le_refl _))
   have nCP_ := Aside0.mk hcp
   have hpl : (rplan l win).length ≤ 100 := rplan_len l win hlc
   have hbv2 : Kd.N k37 37 wt w.heap.size (fun k => k ≠ w.heap.size) vb (rplan l win) := hbv
   obtain ⟨Ab, cb, rfl⟩ := Kd.N_slice hbv2
   have BVC := Aside0.mk (Kd.N_reads' hbv2).2
   clear hfr hcp hbv hbv2 CP HB hP0
   have CP := nCP_
   have HB := nHB_
   clear nCP_ nHB_
   have hm2 : (rplan l win).length ≤ 9223372036854775807 := by omega
   have HV := Aside0.mk (show rbestV l win = outTo l (rplan l win) l.length from rfl)
   go_wp2_with fail
   generalize (nxt l win l.length [] ([], bsTo l l.length)).2 = be at CP
   generalize rplan l win = R at HV hpl BVC CP hm2 ⊢
   go_loopw [7, 8] (fun v7 v8 wr => ∃ i : Nat, i ≤ l.length ∧ v8 = .int .i64 i ∧ Below wt.heap.size wt wr ∧ Kd.N k37 37 wr wt.heap.size (fun _ => True) v7 (outTo l R i)) (fun _ v8 _ => l.length - (intOf v8).toNat)
   case atStart => exact ⟨0, Nat.zero_le _, rfl, Below.refl _ _, Kd.N_nil _ _ _ _ _⟩
   case round =>
    obtain ⟨i, hi, rfl, hb, hn⟩ := hrel
    have HT := Aside0.mk hb
    have HN := Aside0.mk hn
    have HBW := Aside0.mk (below_step HB.out hb)
    clear hb hn
    by_cases hlt : i < l.length
    ·obtain ⟨ai, A3, c3, eA, x0, x1, x2, x3, hci, hii⟩ := at_T34 HL.out (i : Int) (by omega) (by omega)
     subst eA
     rw [Int.toNat_natCast] at x0
     have X0 := Aside0.mk x0
     clear x0 x1 x2 x3 hci hii
     have HE := Aside0.mk (show outTo l R (i + 1) = outTo l R i ++ pkTo R (rd_T34 l i).f0 R.length from rfl)
     have hn0 : Kd.N k37 37 wr wt.heap.size (fun _ => True) u7 (outTo l R i ++ pkTo R (rd_T34 l i).f0 0) := by rw [pkTo, List.append_nil]; exact HN.out
     have HN0 := Aside0.mk hn0
     clear hn0
     go_wp2_with fail
     go_loopw [7, 9] (fun v7 v9 wr => ∃ k : Nat, k ≤ R.length ∧ v9 = .int .i64 k ∧ Below wt.heap.size wt wr ∧ Kd.N k37 37 wr wt.heap.size (fun _ => True) v7 (outTo l R i ++ pkTo R (rd_T34 l i).f0 k)) (fun _ v9 _ => R.length - (intOf v9).toNat)
     case atStart => exact ⟨0, Nat.zero_le _, rfl, HT.out, HN0.out⟩
     case round =>
      clear HT HN HN0 HBW
      obtain ⟨k, hk, rfl, hb, hn⟩ := hrel
      have HT := Aside0.mk hb
      have HN := Aside0.mk hn
      have HBW := Aside0.mk (below_step HB.out hb)
      clear hb hn
      have HXL := Aside0.mk (show (outTo l R i ++ pkTo R (rd_T34 l i).f0 k).length ≤ 20000 from by have h1_ := out_len l R hpl i; have h2_ := pk_len R (rd_T34 l i).f0 k; rw [List.length_append]; omega)
      by_cases hkt : k < R.length
      ·obtain ⟨ab, eB, xb0, xb1, xb2, xb3⟩ := at_T37 BVC.out.2 (k : Int) (by omega) (by omega)
       subst eB
       rw [Int.toNat_natCast] at xb0 xb1 xb2 xb3
       have XB0 := Aside0.mk xb0
       have XB1 := Aside0.mk xb1
       have XB2 := Aside0.mk xb2
       have XB3 := Aside0.mk xb3
       clear xb0 xb1 xb2 xb3
       by_cases he : (rd_T37 R k).f1 = (rd_T34 l i).f0
       ·have HK := Aside0.mk (show outTo l R i ++ pkTo R (rd_T34 l i).f0 (k + 1) = (outTo l R i ++ pkTo R (rd_T34 l i).f0 k) ++ [rd_T37 R k] from by rw [pkTo, if_pos he, ← List.append_assoc])
        have q9 : ((rd_T37 R k).f1 == (rd_T34 l i).f0) = true := beq_iff_eq.mpr he
        clear he
        have hc_ := blk_below CP.out HT.out
        unfold seC at hc_
        have p0 := blk_cell hc_ 0
        have p1 := blk_cell hc_ 1
        have p2 := blk_cell hc_ 2
        have p3 := blk_cell hc_ 3
        simp only [List.getElem?_toArray, List.getElem?_cons_zero, List.getElem?_cons_succ] at p0 p1 p2 p3
        have zp := blk_lt hc_
        clear hc_
        go_wp2_with fail
        clear p0 p1 p2 p3 zp
        have hb := below_drew (Below.refl wr.heap.size wr)
        have nHT_ := Aside0.mk (below_step HT.out hb)
        have nHN_ := Aside0.mk (Kd.N_below HN.out hb)
        have nHBW_ := Aside0.mk (below_step HBW.out hb)
        clear hb HT HN HBW
        have HT := nHT_
        have HN := nHN_
        have HBW := nHBW_
        clear nHT_ nHN_ nHBW_
        refine start_ (n := 14) (S := fun w' => w'.cell? ⟨w.heap.size, 3, none⟩ = some (.slice (some ab) R.length cb) ∧ w'.cell? ⟨(ab.add (k * 4)).block, (ab.add (k * 4)).off + 1, none⟩ = some (.int .i64 (rd_T37 R k).f1) ∧ w'.cell? (ai.add (i * 4)) = some (.int .i64 (rd_T34 l i).f0)) (ds := []) #[false, false, false, false, false, false, false, false, false, false, false, false, false, false] (by kernel_rfl) rfl rfl ⟨((blk_cell (blk_below CP.out HT.out) 3).trans rfl), ((HT.out.cell (World.block_lt_of_cell? wt _ XB1.out)).trans XB1.out), ((HBW.out.cell (World.block_lt_of_cell? w _ X0.out)).trans X0.out)⟩ (fun hHeld => ?_)
        refine with_tabW X34.tab14 X34.bits14 (fun HT_ HW_ => ?_)
        generalize wr.drew = wd at HT HN HBW hHeld ⊢
        refine pure_ (i := 0) (N := some 50) (v := ?_) (a' := ?_) #[true, false, false, false, false, false, false, false, false, false, false, false, false, false] rfl rfl (any_of HT_.out (by kernel_rfl)) (fun _ _ _ h => h) (Or.inl ⟨by rfl, ?_⟩) ?_ ?_
        rotate_left
        ·intro w'
         go_simp
         with_reducible rfl
        rotate_left
        ·simp only [Act.put, List.setIfInBounds_toArray, List.set_cons_zero, List.set_cons_succ, i64_w, i32_w]
         rfl
        refine pure_ (i := 1) (N := some 51) (v := ?_) (a' := ?_) #[true, true, false, false, false, false, false, false, false, false, false, false, false, false] rfl rfl (any_of HT_.out (by kernel_rfl)) (fun _ _ _ h => h) (Or.inl ⟨by rfl, ?_⟩) ?_ ?_
        rotate_left
        ·intro w'
         go_simp
         with_reducible rfl
        rotate_left
        ·simp only [Act.put, List.setIfInBounds_toArray, List.set_cons_zero, List.set_cons_succ, i64_w, i32_w]
         rfl
        refine pure_ (i := 2) (N := some 52) (v := ?_) (a' := ?_) #[true, true, true, false, false, false, false, false, false, false, false, false, false, false] rfl rfl (any_of HT_.out (by kernel_rfl)) (fun _ _ _ h => h) (Or.inl ⟨by rfl, ?_⟩) ?_ ?_
        rotate_left
        ·intro w'
         go_simp
         with_reducible rfl
        rotate_left
        ·simp only [Act.put, List.setIfInBounds_toArray, List.set_cons_zero, List.set_cons_succ, i64_w, i32_w]
         rfl
        refine pure_ (i := 4) (N := some 54) (v := ?_) (a' := ?_) #[true, true, true, false, true, false, false, false, false, false, false, false, false, false] rfl rfl (any_of HT_.out (by kernel_rfl)) (fun _ _ _ h => h) (Or.inl ⟨by rfl, ?_⟩) ?_ ?_
        rotate_left
        ·intro w'
         go_simp
         with_reducible rfl
        rotate_left
        ·simp only [Act.put, List.setIfInBounds_toArray, List.set_cons_zero, List.set_cons_succ, i64_w, i32_w]
         rfl
        refine pure_ (i := 8) (N := some 58) (v := ?_) (a' := ?_) #[true, true, true, false, true, false, false, false, true, false, false, false, false, false] rfl rfl (any_of HT_.out (by kernel_rfl)) (fun _ _ _ h => h) (Or.inl ⟨by rfl, ?_⟩) ?_ ?_
        rotate_left
        ·intro w'
         go_simp
         with_reducible rfl
        rotate_left
        ·simp only [Act.put, List.setIfInBounds_toArray, List.set_cons_zero, List.set_cons_succ, i64_w, i32_w]
         rfl
        refine pure_ (i := 9) (N := some 59) (v := ?_) (a' := ?_) #[true, true, true, false, true, false, false, false, true, true, false, false, false, false] rfl rfl (any_of HT_.out (by kernel_rfl)) (fun _ _ _ h => h) (Or.inl ⟨by rfl, ?_⟩) ?_ ?_
        rotate_left
        ·intro w'
         go_simp
         with_reducible rfl
        rotate_left
        ·simp only [Act.put, List.setIfInBounds_toArray, List.set_cons_zero, List.set_cons_succ, i64_w, i32_w]
         rfl
        refine pure_ (i := 10) (N := some 60) (v := ?_) (a' := ?_) #[true, true, true, false, true, false, false, false, true, true, true, false, false, false] rfl rfl (any_of HT_.out (by kernel_rfl)) (fun _ _ _ h => h) (Or.inl ⟨by rfl, ?_⟩) ?_ ?_
        rotate_left
        ·intro w'
         go_simp
         with_reducible rfl
        rotate_left
        ·simp only [Act.put, List.setIfInBounds_toArray, List.set_cons_zero, List.set_cons_succ, i64_w, i32_w]
         rfl
        refine pure_ (i := 11) (N := some 61) (v := ?_) (a' := ?_) #[true, true, true, false, true, false, false, false, true, true, true, true, false, false] rfl rfl (any_of HT_.out (by kernel_rfl)) (fun _ _ _ h => h) (Or.inl ⟨by rfl, ?_⟩) ?_ ?_
        rotate_left
        ·intro w'
         go_simp
         with_reducible rfl
        rotate_left
        ·simp only [Act.put, List.setIfInBounds_toArray, List.set_cons_zero, List.set_cons_succ, i64_w, i32_w]
         rfl
        refine take_ (i := 3) (N := some 53) (v := ?_) (a' := ?_) #[true, true, true, true, true, false, false, false, true, true, true, true, false, false] rfl rfl (take_ofW HT_.out HW_.out (by kernel_rfl)) (fun _ _ _ h => h) (Or.inl ⟨by rfl, ?_⟩) hHeld ?_ ?_
        rotate_left
        ·rintro w' ⟨s0, s1, s2⟩
         go_simp
         with_reducible rfl
        rotate_left
        ·simp only [Act.put, List.setIfInBounds_toArray, List.set_cons_zero, List.set_cons_succ, i64_w, i32_w]
         rfl
        refine pure_ (i := 5) (N := some 55) (v := ?_) (a' := ?_) #[true, true, true, true, true, true, false, false, true, true, true, true, false, false] rfl rfl (any_of HT_.out (by kernel_rfl)) (fun _ _ _ h => h) (Or.inl ⟨by rfl, ?_⟩) ?_ ?_
        rotate_left
        ·intro w'
         go_simp
         with_reducible rfl
        rotate_left
        ·simp only [Act.put, List.setIfInBounds_toArray, List.set_cons_zero, List.set_cons_succ, i64_w, i32_w]
         rfl
        refine pure_ (i := 6) (N := some 56) (v := ?_) (a' := ?_) #[true, true, true, true, true, true, true, false, true, true, true, true, false, false] rfl rfl (any_of HT_.out (by kernel_rfl)) (fun _ _ _ h => h) (Or.inl ⟨by rfl, ?_⟩) ?_ ?_
        rotate_left
        ·intro w'
         go_simp
         with_reducible rfl
        rotate_left
        ·simp only [Act.put, List.setIfInBounds_toArray, List.set_cons_zero, List.set_cons_succ, i64_w, i32_w]
         rfl
        refine take_ (i := 7) (N := some 57) (v := ?_) (a' := ?_) #[true, true, true, true, true, true, true, true, true, true, true, true, false, false] rfl rfl (take_ofW HT_.out HW_.out (by kernel_rfl)) (fun _ _ _ h => h) (Or.inl ⟨by rfl, ?_⟩) hHeld ?_ ?_
        rotate_left
        ·rintro w' ⟨s0, s1, s2⟩
         go_simp
         with_reducible rfl
        rotate_left
        ·simp only [Act.put, List.setIfInBounds_toArray, List.set_cons_zero, List.set_cons_succ, i64_w, i32_w]
         rfl
        refine take_ (i := 12) (N := some 62) (v := ?_) (a' := ?_) #[true, true, true, true, true, true, true, true, true, true, true, true, true, false] rfl rfl (take_ofW HT_.out HW_.out (by kernel_rfl)) (fun _ _ _ h => h) (Or.inl ⟨by rfl, ?_⟩) hHeld ?_ ?_
        rotate_left
        ·rintro w' ⟨s0, s1, s2⟩
         go_simp
         with_reducible rfl
        rotate_left
        ·simp only [Act.put, List.setIfInBounds_toArray, List.set_cons_zero, List.set_cons_succ, i64_w, i32_w]
         rfl
        refine pure_ (i := 13) (N := some 63) (v := ?_) (a' := ?_) #[true, true, true, true, true, true, true, true, true, true, true, true, true, true] rfl rfl (any_of HT_.out (by kernel_rfl)) (fun _ _ _ h => h) (Or.inl ⟨by rfl, ?_⟩) ?_ ?_
        rotate_left
        ·intro w'
         go_simp
         with_reducible rfl
        rotate_left
        ·simp only [Act.put, List.setIfInBounds_toArray, List.set_cons_zero, List.set_cons_succ, i64_w, i32_w]
         rfl
        refine done_ (done_of HT_.out (by kernel_rfl)) ?_
        have hc_ := blk_below CP.out HT.out
        unfold seC at hc_
        have p0 := blk_cell hc_ 0
        have p1 := blk_cell hc_ 1
        have p2 := blk_cell hc_ 2
        have p3 := blk_cell hc_ 3
        simp only [List.getElem?_toArray, List.getElem?_cons_zero, List.getElem?_cons_succ] at p0 p1 p2 p3
        have zp := blk_lt hc_
        clear hc_
        have xb0 := (HT.out.cell (World.block_lt_of_cell? wt _ XB0.out)).trans XB0.out
        have xb1 := (HT.out.cell (World.block_lt_of_cell? wt _ XB1.out)).trans XB1.out
        have xb2 := (HT.out.cell (World.block_lt_of_cell? wt _ XB2.out)).trans XB2.out
        have xb3 := (HT.out.cell (World.block_lt_of_cell? wt _ XB3.out)).trans XB3.out
        have hb := below_alloc (Below.refl wd.heap.size wd) (.cells #[.int .i64 (rd_T37 R k).f0, .int .i64 (rd_T37 R k).f1, .int .i64 (rd_T37 R k).f2, .int .i64 (rd_T37 R k).f3] 37)
        have HT1 := Aside0.mk (below_step HT.out hb)
        have HN1 := Aside0.mk (Kd.N_below HN.out hb)
        have HZ1 := Aside0.mk (fun k_ hk_ => Kd.N_lt HN.out k_ hk_)
        have HLIT := Aside0.mk (show (wd.alloc (.cells #[.int .i64 (rd_T37 R k).f0, .int .i64 (rd_T37 R k).f1, .int .i64 (rd_T37 R k).f2, .int .i64 (rd_T37 R k).f3] 37)).heap[wd.heap.size]? = some (.cells (flat37 [rd_T37 R k]).toArray 37 (0, 0)) from heap_alloc_new wd _)
        clear hb
        go_wp2_with ((with_reducible refine gate_dst (N := 73) rfl ?_); refine Kd.N_append_rows k37 (w0 := wt) wt.heap.size rfl (.tmp 64) (.tmp 72) 24 37 (.agg #[(.int .i64 0), (.int .i64 0), (.int .i64 0), (.int .i64 0)]) 32 rfl Try.underlying24 info37 rfl (by decide) (by omega) u7 (outTo l R i ++ pkTo R (rd_T34 l i).f0 k) [rd_T37 R k] _ _ _ (fun _ => True) (fun k_ => k_ = wd.heap.size) rfl rfl HN1.out (F_flat [rd_T37 R k] HLIT.out (by simp)) (fun k_ hk => ⟨trivial, fun he => by have h_ := HZ1.out k_ he.symm; have h2_ : k_ = wd.heap.size := hk; omega⟩) (fun _ _ => trivial) HT1.out HT1.out.size (by have h_ := HXL.out; simp only [List.length_append] at h_ ⊢; omega) ?_; intro v1 w3 ho hb hg hat; have HT3 := Aside0.mk hb; have HN3 := Aside0.mk ho; clear ho hb hg hat)
        exact ⟨⟨k + 1, hkt, rfl, HT3.out, by rw [HK.out]; exact HN3.out⟩, by simp [intOf]; omega⟩
       ·have HK := Aside0.mk (show outTo l R i ++ pkTo R (rd_T34 l i).f0 (k + 1) = (outTo l R i ++ pkTo R (rd_T34 l i).f0 k) from by rw [pkTo, if_neg he])
        have q9 : ((rd_T37 R k).f1 == (rd_T34 l i).f0) = false := beq_eq_false_iff_ne.mpr he
        clear he
        have hc_ := blk_below CP.out HT.out
        unfold seC at hc_
        have p0 := blk_cell hc_ 0
        have p1 := blk_cell hc_ 1
        have p2 := blk_cell hc_ 2
        have p3 := blk_cell hc_ 3
        simp only [List.getElem?_toArray, List.getElem?_cons_zero, List.getElem?_cons_succ] at p0 p1 p2 p3
        have zp := blk_lt hc_
        clear hc_
        go_wp2_with fail
        clear p0 p1 p2 p3 zp
        have hb := below_drew (Below.refl wr.heap.size wr)
        have nHT_ := Aside0.mk (below_step HT.out hb)
        have nHN_ := Aside0.mk (Kd.N_below HN.out hb)
        have nHBW_ := Aside0.mk (below_step HBW.out hb)
        clear hb HT HN HBW
        have HT := nHT_
        have HN := nHN_
        have HBW := nHBW_
        clear nHT_ nHN_ nHBW_
        refine start_ (n := 14) (S := fun w' => w'.cell? ⟨w.heap.size, 3, none⟩ = some (.slice (some ab) R.length cb) ∧ w'.cell? ⟨(ab.add (k * 4)).block, (ab.add (k * 4)).off + 1, none⟩ = some (.int .i64 (rd_T37 R k).f1) ∧ w'.cell? (ai.add (i * 4)) = some (.int .i64 (rd_T34 l i).f0)) (ds := []) #[false, false, false, false, false, false, false, false, false, false, false, false, false, false] (by kernel_rfl) rfl rfl ⟨((blk_cell (blk_below CP.out HT.out) 3).trans rfl), ((HT.out.cell (World.block_lt_of_cell? wt _ XB1.out)).trans XB1.out), ((HBW.out.cell (World.block_lt_of_cell? w _ X0.out)).trans X0.out)⟩ (fun hHeld => ?_)
        refine with_tabW X34.tab14 X34.bits14 (fun HT_ HW_ => ?_)
        generalize wr.drew = wd at HT HN HBW hHeld ⊢
        refine pure_ (i := 0) (N := some 50) (v := ?_) (a' := ?_) #[true, false, false, false, false, false, false, false, false, false, false, false, false, false] rfl rfl (any_of HT_.out (by kernel_rfl)) (fun _ _ _ h => h) (Or.inl ⟨by rfl, ?_⟩) ?_ ?_
        rotate_left
        ·intro w'
         go_simp
         with_reducible rfl
        rotate_left
        ·simp only [Act.put, List.setIfInBounds_toArray, List.set_cons_zero, List.set_cons_succ, i64_w, i32_w]
         rfl
        refine pure_ (i := 1) (N := some 51) (v := ?_) (a' := ?_) #[true, true, false, false, false, false, false, false, false, false, false, false, false, false] rfl rfl (any_of HT_.out (by kernel_rfl)) (fun _ _ _ h => h) (Or.inl ⟨by rfl, ?_⟩) ?_ ?_
        rotate_left
        ·intro w'
         go_simp
         with_reducible rfl
        rotate_left
        ·simp only [Act.put, List.setIfInBounds_toArray, List.set_cons_zero, List.set_cons_succ, i64_w, i32_w]
         rfl
        refine pure_ (i := 2) (N := some 52) (v := ?_) (a' := ?_) #[true, true, true, false, false, false, false, false, false, false, false, false, false, false] rfl rfl (any_of HT_.out (by kernel_rfl)) (fun _ _ _ h => h) (Or.inl ⟨by rfl, ?_⟩) ?_ ?_
        rotate_left
        ·intro w'
         go_simp
         with_reducible rfl
        rotate_left
        ·simp only [Act.put, List.setIfInBounds_toArray, List.set_cons_zero, List.set_cons_succ, i64_w, i32_w]
         rfl
        refine pure_ (i := 4) (N := some 54) (v := ?_) (a' := ?_) #[true, true, true, false, true, false, false, false, false, false, false, false, false, false] rfl rfl (any_of HT_.out (by kernel_rfl)) (fun _ _ _ h => h) (Or.inl ⟨by rfl, ?_⟩) ?_ ?_
        rotate_left
        ·intro w'
         go_simp
         with_reducible rfl
        rotate_left
        ·simp only [Act.put, List.setIfInBounds_toArray, List.set_cons_zero, List.set_cons_succ, i64_w, i32_w]
         rfl
        refine pure_ (i := 8) (N := some 58) (v := ?_) (a' := ?_) #[true, true, true, false, true, false, false, false, true, false, false, false, false, false] rfl rfl (any_of HT_.out (by kernel_rfl)) (fun _ _ _ h => h) (Or.inl ⟨by rfl, ?_⟩) ?_ ?_
        rotate_left
        ·intro w'
         go_simp
         with_reducible rfl
        rotate_left
        ·simp only [Act.put, List.setIfInBounds_toArray, List.set_cons_zero, List.set_cons_succ, i64_w, i32_w]
         rfl
        refine pure_ (i := 9) (N := some 59) (v := ?_) (a' := ?_) #[true, true, true, false, true, false, false, false, true, true, false, false, false, false] rfl rfl (any_of HT_.out (by kernel_rfl)) (fun _ _ _ h => h) (Or.inl ⟨by rfl, ?_⟩) ?_ ?_
        rotate_left
        ·intro w'
         go_simp
         with_reducible rfl
        rotate_left
        ·simp only [Act.put, List.setIfInBounds_toArray, List.set_cons_zero, List.set_cons_succ, i64_w, i32_w]
         rfl
        refine pure_ (i := 10) (N := some 60) (v := ?_) (a' := ?_) #[true, true, true, false, true, false, false, false, true, true, true, false, false, false] rfl rfl (any_of HT_.out (by kernel_rfl)) (fun _ _ _ h => h) (Or.inl ⟨by rfl, ?_⟩) ?_ ?_
        rotate_left
        ·intro w'
         go_simp
         with_reducible rfl
        rotate_left
        ·simp only [Act.put, List.setIfInBounds_toArray, List.set_cons_zero, List.set_cons_succ, i64_w, i32_w]
         rfl
        refine pure_ (i := 11) (N := some 61) (v := ?_) (a' := ?_) #[true, true, true, false, true, false, false, false, true, true, true, true, false, false] rfl rfl (any_of HT_.out (by kernel_rfl)) (fun _ _ _ h => h) (Or.inl ⟨by rfl, ?_⟩) ?_ ?_
        rotate_left
        ·intro w'
         go_simp
         with_reducible rfl
        rotate_left
        ·simp only [Act.put, List.setIfInBounds_toArray, List.set_cons_zero, List.set_cons_succ, i64_w, i32_w]
         rfl
        refine take_ (i := 3) (N := some 53) (v := ?_) (a' := ?_) #[true, true, true, true, true, false, false, false, true, true, true, true, false, false] rfl rfl (take_ofW HT_.out HW_.out (by kernel_rfl)) (fun _ _ _ h => h) (Or.inl ⟨by rfl, ?_⟩) hHeld ?_ ?_
        rotate_left
        ·rintro w' ⟨s0, s1, s2⟩
         go_simp
         with_reducible rfl
        rotate_left
        ·simp only [Act.put, List.setIfInBounds_toArray, List.set_cons_zero, List.set_cons_succ, i64_w, i32_w]
         rfl
        refine pure_ (i := 5) (N := some 55) (v := ?_) (a' := ?_) #[true, true, true, true, true, true, false, false, true, true, true, true, false, false] rfl rfl (any_of HT_.out (by kernel_rfl)) (fun _ _ _ h => h) (Or.inl ⟨by rfl, ?_⟩) ?_ ?_
        rotate_left
        ·intro w'
         go_simp
         with_reducible rfl
        rotate_left
        ·simp only [Act.put, List.setIfInBounds_toArray, List.set_cons_zero, List.set_cons_succ, i64_w, i32_w]
         rfl
        refine pure_ (i := 6) (N := some 56) (v := ?_) (a' := ?_) #[true, true, true, true, true, true, true, false, true, true, true, true, false, false] rfl rfl (any_of HT_.out (by kernel_rfl)) (fun _ _ _ h => h) (Or.inl ⟨by rfl, ?_⟩) ?_ ?_
        rotate_left
        ·intro w'
         go_simp
         with_reducible rfl
        rotate_left
        ·simp only [Act.put, List.setIfInBounds_toArray, List.set_cons_zero, List.set_cons_succ, i64_w, i32_w]
         rfl
        refine take_ (i := 7) (N := some 57) (v := ?_) (a' := ?_) #[true, true, true, true, true, true, true, true, true, true, true, true, false, false] rfl rfl (take_ofW HT_.out HW_.out (by kernel_rfl)) (fun _ _ _ h => h) (Or.inl ⟨by rfl, ?_⟩) hHeld ?_ ?_
        rotate_left
        ·rintro w' ⟨s0, s1, s2⟩
         go_simp
         with_reducible rfl
        rotate_left
        ·simp only [Act.put, List.setIfInBounds_toArray, List.set_cons_zero, List.set_cons_succ, i64_w, i32_w]
         rfl
        refine take_ (i := 12) (N := some 62) (v := ?_) (a' := ?_) #[true, true, true, true, true, true, true, true, true, true, true, true, true, false] rfl rfl (take_ofW HT_.out HW_.out (by kernel_rfl)) (fun _ _ _ h => h) (Or.inl ⟨by rfl, ?_⟩) hHeld ?_ ?_
        rotate_left
        ·rintro w' ⟨s0, s1, s2⟩
         go_simp
         with_reducible rfl
        rotate_left
        ·simp only [Act.put, List.setIfInBounds_toArray, List.set_cons_zero, List.set_cons_succ, i64_w, i32_w]
         rfl
        refine pure_ (i := 13) (N := some 63) (v := ?_) (a' := ?_) #[true, true, true, true, true, true, true, true, true, true, true, true, true, true] rfl rfl (any_of HT_.out (by kernel_rfl)) (fun _ _ _ h => h) (Or.inl ⟨by rfl, ?_⟩) ?_ ?_
        rotate_left
        ·intro w'
         go_simp
         with_reducible rfl
        rotate_left
        ·simp only [Act.put, List.setIfInBounds_toArray, List.set_cons_zero, List.set_cons_succ, i64_w, i32_w]
         rfl
        refine done_ (done_of HT_.out (by kernel_rfl)) ?_
        go_wp2
        exact ⟨⟨k + 1, hkt, rfl, HT.out, by rw [HK.out]; exact HN.out⟩, by simp [intOf]; omega⟩
      ·obtain rfl : k = R.length := by omega
       have hc_ := blk_below CP.out HT.out
       unfold seC at hc_
       have p0 := blk_cell hc_ 0
       have p1 := blk_cell hc_ 1
       have p2 := blk_cell hc_ 2
       have p3 := blk_cell hc_ 3
       simp only [List.getElem?_toArray, List.getElem?_cons_zero, List.getElem?_cons_succ] at p0 p1 p2 p3
       have zp := blk_lt hc_
       clear hc_
       go_wp2
       exact ⟨⟨i + 1, hlt, rfl, HT.out, by rw [HE.out]; exact HN.out⟩, by simp [intOf]; omega⟩
    ·obtain rfl : i = l.length := by omega
     go_wp2
     go_ret
     exact ⟨_, by first | rfl | (simp; done), by rw [HV.out]; exact Kd.N_lower HN.out HB.out.size, HBW.out⟩
def skiarearef47_Best.f (l0 : List S34) (l1 : List Bool) : Option (List S37) := if l0.length ≤ 100 ∧ l1.length ≤ 100 then some (rbestV l0 l1) else none
theorem skiarearef47_Best.calls (A0 : Option Addr) (c0 : Nat) (l0 : List (S34)) (A1 : Option Addr) (c1 : Nat) (l1 : List Bool) (r : List (S37)) (w : World) (hr0 : Kd.C k34 w A0 l0.length l0) (hc0 : l0.length ≤ c0) (hr1 : Kd.C Kd.bool w A1 l1.length l1) (hc1 : l1.length ≤ c1) (h : skiarearef47_Best.f l0 l1 = some r) :
  Calls Try.prog 34 #[.slice A0 l0.length c0, .slice A1 l1.length c1] w fun e w' => ∃ v0_ : Value, e = .returned (v0_) ∧ Kd.R k37 37 w' w.heap.size (fun _ => True) v0_ r ∧ Below w.heap.size w w' := by
 unfold skiarearef47_Best.f at h
 by_cases hl : l0.length ≤ 100 ∧ l1.length ≤ 100
 ·rw [if_pos hl] at h
  obtain rfl := Option.some.inj h
  refine (rbest_calls A0 A1 c0 c1 l0 l1 w hr0 hc0 hr1 hc1 hl.1 hl.2).mono ?_
  rintro e w' ⟨v, he, hN, hb⟩
  exact ⟨v, he, N37_R hN, hb⟩
 ·rw [if_neg hl] at h
  cases h

end Go.Proofs.Yticfgecicmgpeaa.A
