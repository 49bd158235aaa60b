-- PRINTED by print.py (a twelfth state) out of the translation. Not trusted: Lean checks it.
import Derived.Test.YticfgecicmgpeaaAx0
import Derived.Test.YticfgecicmgpeaaAx1
import Derived.Test.YticfgecicmgpeaaAx5
import Derived.Test.YticfgecicmgpeaaAx6
import Derived.Test.YticfgecicmgpeaaAx8
import Derived.Test.YticfgecicmgpeaaAx26
import Derived.Test.YticfgecicmgpeaaAx42
import Derived.Test.YticfgecicmgpeaaAx44
namespace Go.Proofs.Yticfgecicmgpeaa.A
open Go.RowKit Go.Proofs.YticfgecicmgpeaaW.PrintWords Go.Proofs.YticfgecicmgpeaaW.PrintLast Go.Proofs.YticfgecicmgpeaaW.PrintMore
attribute [local go_sem] max2_int min2_int max_two min_two max_three min_three max_four min_four   -- for this text's walks alone
set_option linter.unusedVariables false
set_option linter.unusedSimpArgs false

/-! ### skiarearef47_search_next: function 46 -/
theorem end_l0 (plan : List S37) (hl : plan.length ≤ 9223372036854775807) (d : Nat) : ∀ j : Nat, plan.length - j = d → j ≤ plan.length → Ev (fun k => skiarearef47_End.l0 k plan (endTo plan j) j) (endV plan) := by
 induction d with
 | zero =>
  intro j hd hj
  obtain rfl : j = plan.length := by omega
  exact Ev.step (fun k => by rw [skiarearef47_End.l0, if_neg (by omega)]; rfl) (Ev.now _)
 | succ d ih =>
  intro j hd hj
  have hn := ih (j + 1) (by omega) (by omega)
  by_cases h0 : j = 0
  ·subst h0
   have he : endTo plan (0 + 1) = (rd_T37 plan (0 : Nat)).f3 := by rw [endTo, if_pos rfl]
   rw [he] at hn
   exact Ev.step (fun k => by rw [skiarearef47_End.l0, if_pos (by omega), if_pos (show ((0 : Nat) : Int) = 0 from rfl), if_pos (by omega), wS 0 _ hl (by omega)]) hn
  ·by_cases hg : (rd_T37 plan j).f3 > endTo plan j
   ·have he : endTo plan (j + 1) = (rd_T37 plan j).f3 := by rw [endTo, if_neg h0, mx, if_pos hg]
    rw [he] at hn
    exact Ev.step (fun k => by rw [skiarearef47_End.l0, if_pos (by omega), if_neg (by omega), if_pos (by omega), if_pos hg, wS j _ hl (by omega)]) hn
   ·have he : endTo plan (j + 1) = endTo plan j := by rw [endTo, if_neg h0, mx, if_neg (by omega)]
    rw [he] at hn
    exact Ev.step (fun k => by rw [skiarearef47_End.l0, if_pos (by omega), if_neg (by omega), if_pos (by omega), if_neg hg, wS j _ hl (by omega)]) hn
theorem end_ev (plan : List S37) (hl : plan.length ≤ 9223372036854775807) : Ev (fun k => skiarearef47_End.f k plan) (endV plan) := end_l0 plan hl plan.length 0 (by omega) (by omega)
theorem rend_calls (A : Option Addr) (c : Nat) (plan : List S37) (w : World) (hr : Kd.C k37 w A plan.length plan) (hc : plan.length ≤ c) : Calls Try.prog 21 #[.slice A plan.length c] w fun e w' => e = .returned (.int .i64 (endV plan)) ∧ Drawn0 w w' := by
 obtain ⟨k, hk⟩ := (end_ev plan hr.2.1).rounds
 exact skiarearef47_End.calls k A c plan _ w hr hc hk
/-- Has one of the first k shifts the run x? -/
def dnTo (plan : List S37) (x : Int) : Nat → Bool
 | 0 => false
 | k + 1 => dnTo plan x k || ((rd_T37 plan k).f1 == x)
def dnV (plan : List S37) (x : Int) : Bool := dnTo plan x plan.length
def rto (l : List S34) (plan : List S37) (i g : Nat) : Int := wrap64 (frV l plan (rd_T34 l i) ((g : Int) + 1) + (rd_T34 l i).f1)
def radd (l : List S34) (plan : List S37) (i g : Nat) : S37 := ⟨(g : Int) + 1, (rd_T34 l i).f0, frV l plan (rd_T34 l i) ((g : Int) + 1), rto l plan i g⟩
def ngOf (l : List S34) (win : List Bool) (F : List S37 → List S37 × Int → List S37 × Int) (plan : List S37) (i g : Nat) (b : List S37 × Int) : List S37 × Int :=
 if rto l plan i g < b.2 ∧ (rdOf false win g = true ∨ (rd_T34 l i).f2 = false) then F (plan ++ [radd l plan i g]) b else b
def niOf (l : List S34) (win : List Bool) (F : List S37 → List S37 × Int → List S37 × Int) (plan : List S37) (i : Nat) (b : List S37 × Int) : List S37 × Int :=
 if dnV plan (rd_T34 l i).f0 = true then b else upTo (ngOf l win F plan i) win.length b
def nxt (l : List S34) (win : List Bool) : Nat → List S37 → List S37 × Int → List S37 × Int
 | 0, plan, _ => (plan, endV plan)
 | n + 1, plan, b => upTo (niOf l win (nxt l win n) plan) l.length b
theorem F_flat {W : World} {g : Nat} {t : TypeId} (xs : List S37) (h : W.heap[g]? = some (.cells (flat37 xs).toArray t (0, 0))) (hm : xs.length ≤ 9223372036854775807) : Kd.F k37 W (fun k => k = g) (some ⟨g, 0, none⟩) xs.length xs := fun W' hW => C_flat xs ((hW g rfl (blk_lt h)).trans h) hm
theorem rd_snoc_lt {xs : List S37} {x : S37} {k : Nat} (h : k < xs.length) : rd_T37 (xs ++ [x]) k = rd_T37 xs k := by simp [rd_T37, List.getElem?_append_left h]
theorem rd_snoc_at (xs : List S37) (x : S37) : rd_T37 (xs ++ [x]) xs.length = x := by simp [rd_T37]
theorem runAt_lt {l : List S34} {i : Nat} (h : i < l.length) : runAt l (rd_T34 l i).f0 < l.length := by
 rw [rdT_get h]
 exact List.findIdx_lt_length_of_exists ⟨l[i], List.getElem_mem h, by simp [hasRun]⟩
theorem in_snoc {l : List S34} {plan : List S37} {x : S37} (hin : ∀ k : Nat, k < plan.length → runAt l (rd_T37 plan k).f1 < l.length) (hx : runAt l x.f1 < l.length) : ∀ k : Nat, k < (plan ++ [x]).length → runAt l (rd_T37 (plan ++ [x]) k).f1 < l.length := by
 intro k hk
 rw [List.length_append, List.length_singleton] at hk
 by_cases he : k = plan.length
 ·subst he; rw [rd_snoc_at]; exact hx
 ·rw [rd_snoc_lt (by omega)]; exact hin k (by omega)
theorem radd_in {l : List S34} {plan : List S37} {i g : Nat} (h : i < l.length) : runAt l (radd l plan i g).f1 < l.length := runAt_lt h
def seC (l : List S34) (Al : Option Addr) (cl : Nat) (win : List Bool) (Aw : Option Addr) (cw : Nat) (be : Int) (vb : Value) : Obj := .cells #[.slice Al l.length cl, .slice Aw win.length cw, .int .i64 be, vb] 75 (0, 0)
set_option maxHeartbeats 4000000 in
set_option maxRecDepth 100000 in
theorem next_zero (w0 : World) (l : List S34) (win : List Bool) (Al Aw : Option Addr) (cl cw P : Nat) (hl : Kd.C k34 w0 Al l.length l) (hw : Kd.C Kd.bool w0 Aw win.length win) (hlc : l.length ≤ 100) (hwc : win.length ≤ 100) (hP : w0.heap.size ≤ P) (hlcl : l.length ≤ cl) (hwcw : win.length ≤ cw) (plan : List S37) (v : Value) (be : Int) (bp : List S37) (vb : Value) (w : World) (hpn : plan.length + 0 = l.length) (hin : ∀ k : Nat, k < plan.length → runAt l (rd_T37 plan k).f1 < l.length) (hB0 : Below w0.heap.size w0 w) (hcP : w.heap[P]? = some (seC l Al cl win Aw cw be vb)) (hbv : Kd.N k37 37 w w0.heap.size (fun k => k ≠ P) vb bp) (hpv : Kd.N k37 37 w w0.heap.size (fun k => k ≠ P) v plan) :
  Calls Try.prog 46 #[.pointer (some ⟨P, 0, none⟩), v] w fun e_ w' => e_ = .returned (.tuple #[]) ∧ Frm (fun k => k = P) w w' ∧ ∃ vb' : Value, w'.heap[P]? = some (seC l Al cl win Aw cw (nxt l win (0) plan (bp, be)).2 vb') ∧ Kd.N k37 37 w' w0.heap.size (fun k => k ≠ P) vb' (nxt l win (0) plan (bp, be)).1 := by
 obtain ⟨Ap, cp, rfl⟩ := Kd.N_slice hpv
 have HL := Aside0.mk hl
 have HW := Aside0.mk hw
 have HPN := Aside0.mk hpn
 have HIN := Aside0.mk hin
 have HB0 := Aside0.mk hB0
 have HCP := Aside0.mk hcP
 have HBV := Aside0.mk hbv
 have HPV := Aside0.mk hpv
 have HPC := Aside0.mk (Kd.N_reads' hpv).2
 have hu34 := Try.underlying34
 have hu37 := Try.underlying37
 have hu75 := Try.underlying75
 have zP := blk_lt hcP
 unfold seC at hcP
 have p0 := blk_cell hcP 0
 have p1 := blk_cell hcP 1
 have p2 := blk_cell hcP 2
 have p3 := blk_cell hcP 3
 simp only [List.getElem?_toArray, List.getElem?_cons_zero, List.getElem?_cons_succ] at p0 p1 p2 p3
 clear hl hw hpn hin hB0 hcP hbv hpv
 have q0 : ((plan.length : Int) == (l.length : Int)) = true := beq_iff_eq.mpr (by have := HPN.out; omega)
 have hps : plan.length ≤ 100 := by have := HPN.out; omega
 go_enter Try.func46, Try.ntmps46
 go_wp2_with fail
 refine (rend_calls Ap cp plan _ HPC.out.2 HPC.out.1).mono ?_
 rintro e_ w1 ⟨rfl, ⟨m_, rfl⟩⟩
 have hb := pw_below_drewN (Below.refl w.heap.size w) m_
 have C1 := Aside0.mk (blk_below HCP.out hb)
 have HB1 := Aside0.mk hb
 have BV1 := Aside0.mk (Kd.N_below HBV.out hb)
 have PV1 := Aside0.mk (Kd.N_below HPV.out hb)
 clear hb p0 p1 p2 p3
 generalize w.drewN m_ = w1 at C1 HB1 BV1 PV1 ⊢
 have hc1 := C1.out
 unfold seC at hc1
 have p0 := blk_cell hc1 0
 have p1 := blk_cell hc1 1
 have p2 := blk_cell hc1 2
 have p3 := blk_cell hc1 3
 simp only [List.getElem?_toArray, List.getElem?_cons_zero, List.getElem?_cons_succ] at p0 p1 p2 p3
 have fz2 := blk_frozen hc1 2
 have zP1 := blk_lt hc1
 clear hc1
 have C2 := Aside0.mk (show (w1.setCell ⟨P, 2, none⟩ (.int .i64 (endV plan))).heap[P]? = some (seC l Al cl win Aw cw (endV plan) vb) from blk_put C1.out 2 _ rfl)
 have FR2 := Aside0.mk (Frm.set (S := fun k => k = P) (g := P) (Frm.of_below HB1.out) rfl 2 (.int .i64 (endV plan)))
 have PV2 := Aside0.mk (Kd.N_far (p := ⟨P, 2, none⟩) PV1.out (fun k hk => hk) (.int .i64 (endV plan)))
 have hm : plan.length ≤ 9223372036854775807 := by omega
 have HF2 := Aside0.mk (Kd.C_F k37_heap (Kd.N_reads' PV2.out).2.2)
 go_wp2_with ((with_reducible refine gate_dst (N := 25) rfl ?_); refine Kd.N_append_rows k37 (w0 := w1.setCell ⟨P, 2, none⟩ (.int .i64 (endV plan))) (w1.setCell ⟨P, 2, none⟩ (.int .i64 (endV plan))).heap.size rfl (.const (.slice none 0 0)) (.tmp 24) 24 37 (.agg #[(.int .i64 0), (.int .i64 0), (.int .i64 0), (.int .i64 0)]) 32 rfl Try.underlying24 info37 rfl (by decide) (by omega) (.slice none 0 0) ([] : List S37) plan _ _ _ (fun _ => True) (fun k => k < (w1.setCell ⟨P, 2, none⟩ (.int .i64 (endV plan))).heap.size) rfl rfl (Kd.N_nil _ _ _ _ _) HF2.out (fun k hk => ⟨trivial, by simp [Value.ownBlock]⟩) (fun _ _ => trivial) (Below.refl _ _) (Nat.le_refl _) (by simp; omega) ?_; intro v1 w3 ho hb hg hat; have PN3 := Aside0.mk ho; have HB3 := Aside0.mk hb; have hc3 := blk_below C2.out hb; have C3 := Aside0.mk hc3; have FR3 := Aside0.mk (FR2.out.trans (Frm.of_below hb)); unfold seC at hc3; have r0 := blk_cell hc3 0; have r1 := blk_cell hc3 1; have r2 := blk_cell hc3 2; have r3 := blk_cell hc3 3; simp only [List.getElem?_toArray, List.getElem?_cons_zero, List.getElem?_cons_succ] at r0 r1 r2 r3; have fz3 := blk_frozen hc3 3; have zP3 := blk_lt hc3; obtain ⟨An, cn, rfl⟩ := Kd.N_slice ho; clear ho hb hg hat hc3)
 (try simp only [Exit.inBlock, Exit.then])
 first | (refine bodyPost_ret (results_none rfl _ _ _) rfl ?_) | (refine bodyPost_end (results_none rfl _ _ _) rfl ?_)
 have hN := N37_mono (ok' := fun k => k ≠ P) (Kd.N_lower PN3.out (show w0.heap.size ≤ _ from by have := HB0.out.size; have := HB1.out.size; simp; omega)) (fun k hk => by have := Kd.N_base PN3.out k hk; simp at this; omega)
 exact ⟨by first | rfl | (simp; done), Frm.set (S := fun k => k = P) (g := P) FR3.out rfl 3 _, _, blk_put C3.out 3 _ (by first | rfl | (simp [seC]; done)), Kd.N_far hN (fun k hk => hk) _⟩
def X46.T11 : Bool × List (List Nat × List Nat) := (true, [([], []), ([0], [0]), ([1], [1]), ([1], [1]), ([2, 3, 1], [1, 2, 3]), ([4, 1], [1, 4]), ([5, 1], [1, 5]), ([1], [1]), ([7, 1], [1, 7]), ([6, 8, 1], [1, 6, 8]), ([1, 9], [1, 9]), ([10, 1, 0, 1, 2, 3, 4, 5, 6, 7, 8, 9, 10], [0, 10])])
def X46.B11 : List Nat := [0, 1, 3, 3, 15, 31, 63, 3, 131, 511, 1023, 2047]
theorem X46.tab11 : rtab .any (opsOf Try.f46 11) = X46.T11 := by kernel_rfl
theorem X46.bits11 : waitsOk X46.T11.2 X46.B11 = true := by kernel_rfl
def X46.T16 : Bool × List (List Nat × List Nat) := (true, [([], []), ([], []), ([1], [1]), ([0, 2], [0, 2]), ([], []), ([4], [4]), ([5], [5]), ([6], [6]), ([3, 7], [3, 7]), ([8], [8]), ([9], [9]), ([10, 9], [9, 10]), ([11, 9], [9, 11]), ([12, 9], [9, 12]), ([9], [9]), ([14, 9], [9, 14]), ([13, 15, 9], [9, 13, 15]), ([16, 9], [9, 16]), ([17, 9, 9], [9, 17]), ([18], [18]), ([19, 18], [18, 19]), ([20, 18], [18, 20]), ([18, 21, 9], [9, 18, 21]), ([9, 22], [9, 22])])
def X46.B16 : List Nat := [0, 0, 2, 7, 0, 16, 48, 112, 255, 511, 1023, 2047, 4095, 8191, 1023, 17407, 65535, 131071, 262143, 524287, 1048575, 2097151, 4194303, 8388607]
theorem X46.tab16 : rtab .any (opsOf Try.f46 16) = X46.T16 := by kernel_rfl
theorem X46.bits16 : waitsOk X46.T16.2 X46.B16 = true := by kernel_rfl
def X46.T17 : Bool × List (List Nat × List Nat) := (true, [([], []), ([], []), ([1], [1]), ([], []), ([], []), ([4], [4]), ([], []), ([], []), ([], []), ([8], [8]), ([7, 9], [7, 9]), ([3, 5, 6, 10], [3, 5, 6, 10]), ([11], [11]), ([2, 12, 2], [2, 12]), ([0, 13, 13], [0, 13])])
def X46.B17 : List Nat := [0, 0, 2, 0, 0, 16, 0, 0, 0, 256, 896, 2040, 4088, 8190, 16383]
theorem X46.tab17 : rtab .any (opsOf Try.f46 17) = X46.T17 := by kernel_rfl
theorem X46.bits17 : waitsOk X46.T17.2 X46.B17 = true := by kernel_rfl
set_option maxHeartbeats 8000000 in
set_option maxRecDepth 100000 in
theorem next_succ (w0 : World) (l : List S34) (win : List Bool) (Al Aw : Option Addr) (cl cw P : Nat) (hl : Kd.C k34 w0 Al l.length l) (hw : Kd.C Kd.bool w0 Aw win.length win) (hlc : l.length ≤ 100) (hwc : win.length ≤ 100) (hP : w0.heap.size ≤ P) (hlcl : l.length ≤ cl) (hwcw : win.length ≤ cw) (n : Nat) (IH : ∀ (plan : List S37) (v : Value) (be : Int) (bp : List S37) (vb : Value) (w : World) (hpn : plan.length + n = l.length) (hin : ∀ k : Nat, k < plan.length → runAt l (rd_T37 plan k).f1 < l.length) (hB0 : Below w0.heap.size w0 w) (hcP : w.heap[P]? = some (seC l Al cl win Aw cw be vb)) (hbv : Kd.N k37 37 w w0.heap.size (fun k => k ≠ P) vb bp) (hpv : Kd.N k37 37 w w0.heap.size (fun k => k ≠ P) v plan), Calls Try.prog 46 #[.pointer (some ⟨P, 0, none⟩), v] w fun e_ w' => e_ = .returned (.tuple #[]) ∧ Frm (fun k => k = P) w w' ∧ ∃ vb' : Value, w'.heap[P]? = some (seC l Al cl win Aw cw (nxt l win (n) plan (bp, be)).2 vb') ∧ Kd.N k37 37 w' w0.heap.size (fun k => k ≠ P) vb' (nxt l win (n) plan (bp, be)).1) (plan : List S37) (v : Value) (be : Int) (bp : List S37) (vb : Value) (w : World) (hpn : plan.length + (n + 1) = l.length) (hin : ∀ k : Nat, k < plan.length → runAt l (rd_T37 plan k).f1 < l.length) (hB0 : Below w0.heap.size w0 w) (hcP : w.heap[P]? = some (seC l Al cl win Aw cw be vb)) (hbv : Kd.N k37 37 w w0.heap.size (fun k => k ≠ P) vb bp) (hpv : Kd.N k37 37 w w0.heap.size (fun k => k ≠ P) v plan) :
  Calls Try.prog 46 #[.pointer (some ⟨P, 0, none⟩), v] w fun e_ w' => e_ = .returned (.tuple #[]) ∧ Frm (fun k => k = P) w w' ∧ ∃ vb' : Value, w'.heap[P]? = some (seC l Al cl win Aw cw (nxt l win (n + 1) plan (bp, be)).2 vb') ∧ Kd.N k37 37 w' w0.heap.size (fun k => k ≠ P) vb' (nxt l win (n + 1) plan (bp, be)).1 := by
 have hS : nxt l win (n + 1) plan (bp, be) = upTo (niOf l win (nxt l win n) plan) l.length (bp, be) := rfl
 rw [hS]
 clear hS
 have HIH := Aside0.mk IH
 clear IH
 obtain ⟨Ap, cp, rfl⟩ := Kd.N_slice hpv
 have HL := Aside0.mk hl
 have HW := Aside0.mk hw
 have HPN := Aside0.mk hpn
 have HIN := Aside0.mk hin
 have HB0 := Aside0.mk hB0
 have HCP := Aside0.mk hcP
 have HBV := Aside0.mk hbv
 have HPV := Aside0.mk hpv
 have HPC := Aside0.mk (Kd.N_reads' hpv).2
 have hu34 := Try.underlying34
 have hu37 := Try.underlying37
 have hu75 := Try.underlying75
 have zP := blk_lt hcP
 unfold seC at hcP
 have p0 := blk_cell hcP 0
 have p1 := blk_cell hcP 1
 have p2 := blk_cell hcP 2
 have p3 := blk_cell hcP 3
 simp only [List.getElem?_toArray, List.getElem?_cons_zero, List.getElem?_cons_succ] at p0 p1 p2 p3
 clear hl hw hpn hin hB0 hcP hbv hpv
 have q0 : ((plan.length : Int) == (l.length : Int)) = false := beq_eq_false_iff_ne.mpr (by have := HPN.out; omega)
 have hps : plan.length ≤ 100 := by have := HPN.out; omega
 go_enter Try.func46, Try.ntmps46
 go_wp2_with fail
 clear p0 p1 p2 p3
 go_loopw [4] (fun v4 wr => ∃ i : Nat, i ≤ l.length ∧ v4 = .int .i64 i ∧ ∃ vb' : Value, Frm (fun k => k = P) w wr ∧ wr.heap[P]? = some (seC l Al cl win Aw cw (upTo (niOf l win (nxt l win n) plan) i (bp, be)).2 vb') ∧ Kd.N k37 37 wr w0.heap.size (fun k => k ≠ P) vb' (upTo (niOf l win (nxt l win n) plan) i (bp, be)).1) (fun v4 _ => l.length - (intOf v4).toNat)
 case atStart => exact ⟨0, Nat.zero_le _, rfl, _, Frm.refl _ _, HCP.out, HBV.out⟩
 case round =>
  obtain ⟨i, hi, rfl, vi, hfr, hcp, hbv⟩ := hrel
  generalize hbi : upTo (niOf l win (nxt l win n) plan) i (bp, be) = bi at hcp hbv
  have HBI := Aside0.mk hbi
  clear hbi
  have FR := Aside0.mk hfr
  have CP := Aside0.mk hcp
  have BV := Aside0.mk hbv
  clear hfr hcp hbv
  have PV := Aside0.mk (Kd.N_step HPV.out (fun k hk hlt => FR.out.block k hlt hk))
  have HBr := Aside0.mk (FR.out.below HB0.out (fun k hk => (show k = P from hk) ▸ hP))
  have hc_ := CP.out
  unfold seC at hc_
  have p0 := blk_cell hc_ 0
  have p1 := blk_cell hc_ 1
  have p2 := blk_cell hc_ 2
  have p3 := blk_cell hc_ 3
  simp only [List.getElem?_toArray, List.getElem?_cons_zero, List.getElem?_cons_succ] at p0 p1 p2 p3
  clear hc_
  have zp := blk_lt CP.out
  by_cases hlt : i < l.length
  ·obtain ⟨ai, A3, c3, eA, x0, x1, x2, x3, hci, hii⟩ := at_T34 HL.out (i : Int) (by omega) (by omega)
   subst eA
   rw [Int.toNat_natCast] at x0 x1 x2 x3
   replace x0 := (HBr.out.cell (World.block_lt_of_cell? w0 _ x0)).trans x0
   replace x1 := (HBr.out.cell (World.block_lt_of_cell? w0 _ x1)).trans x1
   replace x2 := (HBr.out.cell (World.block_lt_of_cell? w0 _ x2)).trans x2
   replace x3 := (HBr.out.cell (World.block_lt_of_cell? w0 _ x3)).trans x3
   have HCI := Aside0.mk hci
   have HII := Aside0.mk hii
   clear hci hii
   have hb := below_alloc (Below.refl wr.heap.size wr) (.cells #[.int .i64 (rd_T34 l i).f0, .int .i64 (rd_T34 l i).f1, .bool (rd_T34 l i).f2, .slice A3 (rd_T34 l i).f3.length c3] 34 (0, 0))
   have FR1 := Aside0.mk (FR.out.trans (Frm.of_below hb))
   have CP1 := Aside0.mk (blk_below CP.out hb)
   have BV1 := Aside0.mk (Kd.N_below BV.out hb)
   have BX1 := Aside0.mk (heap_alloc_new wr (.cells #[.int .i64 (rd_T34 l i).f0, .int .i64 (rd_T34 l i).f1, .bool (rd_T34 l i).f2, .slice A3 (rd_T34 l i).f3.length c3] 34 (0, 0)))
   have nx : P ≠ wr.heap.size := by have := blk_lt CP.out; omega
   clear hb
   go_wp2_with fail
   clear x0 x1 x2 x3 FR CP BV PV HBr
   clear p0 p1 p2 p3 zp
   generalize wr.heap.size = bx at BX1 nx ⊢
   generalize wr.alloc (.cells #[.int .i64 (rd_T34 l i).f0, .int .i64 (rd_T34 l i).f1, .bool (rd_T34 l i).f2, .slice A3 (rd_T34 l i).f3.length c3] 34 (0, 0)) = wo at FR1 CP1 BV1 BX1 ⊢
   go_loopw [6, 7] (fun v6 v7 wr => ∃ k : Nat, k ≤ plan.length ∧ v7 = .int .i64 k ∧ v6 = .bool (dnTo plan (rd_T34 l i).f0 k) ∧ Below wo.heap.size wo wr) (fun _ v7 _ => plan.length - (intOf v7).toNat)
   case atStart => exact ⟨0, Nat.zero_le _, rfl, rfl, Below.refl _ _⟩
   case round =>
    obtain ⟨k, hk, rfl, rfl, hb⟩ := hrel
    have FR := Aside0.mk (FR1.out.trans (Frm.of_below hb))
    have CP := Aside0.mk (blk_below CP1.out hb)
    have BV := Aside0.mk (Kd.N_below BV1.out hb)
    have BX := Aside0.mk (blk_below BX1.out hb)
    have PV := Aside0.mk (Kd.N_step HPV.out (fun k hk hlt => FR.out.block k hlt hk))
    have HBr := Aside0.mk (FR.out.below HB0.out (fun k hk => (show k = P from hk) ▸ hP))
    have HBo := Aside0.mk hb
    clear hb
    by_cases hkt : k < plan.length
    ·cases hdn : dnTo plan (rd_T34 l i).f0 k with
     | true =>
      have HD := Aside0.mk (show dnTo plan (rd_T34 l i).f0 (k + 1) = true from by simp [dnTo, hdn])
      have HBk := Aside0.mk (Below.refl wr.heap.size wr)
      go_wp2_with fail
      have nK_ := Aside0.mk (below_step HBk.out (below_drew (Below.refl wr.heap.size wr)))
      have nO_ := Aside0.mk (below_step HBo.out (below_drew (Below.refl wr.heap.size wr)))
      clear HBk HBo
      have HBk := nK_
      have HBo := nO_
      clear nK_ nO_
      have hb := below_drew (Below.refl wr.heap.size wr)
      have nFR_ := Aside0.mk (FR.out.trans (Frm.of_below hb))
      have nCP_ := Aside0.mk (blk_below CP.out hb)
      have nBV_ := Aside0.mk (Kd.N_below BV.out hb)
      have nPV_ := Aside0.mk (Kd.N_below PV.out hb)
      have nBX_ := Aside0.mk (blk_below BX.out hb)
      have nHBr_ := Aside0.mk (below_step HBr.out hb)
      clear hb FR CP BV PV BX HBr
      have FR := nFR_
      have CP := nCP_
      have BV := nBV_
      have PV := nPV_
      have BX := nBX_
      have HBr := nHBr_
      clear nFR_ nCP_ nBV_ nPV_ nBX_ nHBr_
      refine start_ (n := 12) (S := fun w' => True) (ds := []) #[false, false, false, false, false, false, false, false, false, false, false, false] (by kernel_rfl) rfl rfl trivial (fun hHeld => ?_)
      refine with_tabW X46.tab11 X46.bits11 (fun HT_ HW_ => ?_)
      generalize wr.drew = wd at FR CP BV PV BX HBr HBk HBo hHeld ⊢
      refine pure_ (i := 0) (N := some 50) (v := ?_) (a' := ?_) #[true, false, false, false, false, false, false, false, false, false, false, false] rfl rfl (any_of HT_.out (by kernel_rfl)) (fun _ _ _ h => h) (Or.inl ⟨by rfl, ?_⟩) ?_ ?_
      rotate_left
      ·intro w'
       go_simp
       with_reducible rfl
      rotate_left
      ·simp only [Act.put, List.setIfInBounds_toArray, List.set_cons_zero, List.set_cons_succ, i64_w, i32_w]
       rfl
      refine pure_ (i := 1) (N := some 51) (v := ?_) (a' := ?_) #[true, true, false, false, false, false, false, false, false, false, false, false] rfl rfl (any_of HT_.out (by kernel_rfl)) (fun _ _ _ h => h) (Or.inl ⟨by rfl, ?_⟩) ?_ ?_
      rotate_left
      ·intro w'
       go_simp
       with_reducible rfl
      rotate_left
      ·simp only [Act.put, List.setIfInBounds_toArray, List.set_cons_zero, List.set_cons_succ, i64_w, i32_w]
       rfl
      refine pure_ (i := 2) (N := some 52) (v := undef) (a' := ?_) #[true, true, true, false, false, false, false, false, false, false, false, false] rfl rfl (any_of HT_.out (by kernel_rfl)) (fun _ _ _ h => h) (Or.inr ⟨by rfl, rfl⟩) ?_ ?_
      rotate_left
      ·simp only [Act.put, List.setIfInBounds_toArray, List.set_cons_zero, List.set_cons_succ, i64_w, i32_w]
       rfl
      refine pure_ (i := 3) (N := some 53) (v := undef) (a' := ?_) #[true, true, true, true, false, false, false, false, false, false, false, false] rfl rfl (any_of HT_.out (by kernel_rfl)) (fun _ _ _ h => h) (Or.inr ⟨by rfl, rfl⟩) ?_ ?_
      rotate_left
      ·simp only [Act.put, List.setIfInBounds_toArray, List.set_cons_zero, List.set_cons_succ, i64_w, i32_w]
       rfl
      refine pure_ (i := 4) (N := some 54) (v := undef) (a' := ?_) #[true, true, true, true, true, false, false, false, false, false, false, false] rfl rfl (any_of HT_.out (by kernel_rfl)) (fun _ _ _ h => h) (Or.inr ⟨by rfl, rfl⟩) ?_ ?_
      rotate_left
      ·simp only [Act.put, List.setIfInBounds_toArray, List.set_cons_zero, List.set_cons_succ, i64_w, i32_w]
       rfl
      refine pure_ (i := 5) (N := some 55) (v := undef) (a' := ?_) #[true, true, true, true, true, true, false, false, false, false, false, false] rfl rfl (any_of HT_.out (by kernel_rfl)) (fun _ _ _ h => h) (Or.inr ⟨by rfl, rfl⟩) ?_ ?_
      rotate_left
      ·simp only [Act.put, List.setIfInBounds_toArray, List.set_cons_zero, List.set_cons_succ, i64_w, i32_w]
       rfl
      refine pure_ (i := 6) (N := some 56) (v := undef) (a' := ?_) #[true, true, true, true, true, true, true, false, false, false, false, false] rfl rfl (any_of HT_.out (by kernel_rfl)) (fun _ _ _ h => h) (Or.inr ⟨by rfl, rfl⟩) ?_ ?_
      rotate_left
      ·simp only [Act.put, List.setIfInBounds_toArray, List.set_cons_zero, List.set_cons_succ, i64_w, i32_w]
       rfl
      refine pure_ (i := 7) (N := some 57) (v := undef) (a' := ?_) #[true, true, true, true, true, true, true, true, false, false, false, false] rfl rfl (any_of HT_.out (by kernel_rfl)) (fun _ _ _ h => h) (Or.inr ⟨by rfl, rfl⟩) ?_ ?_
      rotate_left
      ·simp only [Act.put, List.setIfInBounds_toArray, List.set_cons_zero, List.set_cons_succ, i64_w, i32_w]
       rfl
      refine pure_ (i := 8) (N := some 58) (v := undef) (a' := ?_) #[true, true, true, true, true, true, true, true, true, false, false, false] rfl rfl (any_of HT_.out (by kernel_rfl)) (fun _ _ _ h => h) (Or.inr ⟨by rfl, rfl⟩) ?_ ?_
      rotate_left
      ·simp only [Act.put, List.setIfInBounds_toArray, List.set_cons_zero, List.set_cons_succ, i64_w, i32_w]
       rfl
      refine pure_ (i := 9) (N := some 59) (v := undef) (a' := ?_) #[true, true, true, true, true, true, true, true, true, true, false, false] rfl rfl (any_of HT_.out (by kernel_rfl)) (fun _ _ _ h => h) (Or.inr ⟨by rfl, rfl⟩) ?_ ?_
      rotate_left
      ·simp only [Act.put, List.setIfInBounds_toArray, List.set_cons_zero, List.set_cons_succ, i64_w, i32_w]
       rfl
      refine pure_ (i := 10) (N := some 60) (v := ?_) (a' := ?_) #[true, true, true, true, true, true, true, true, true, true, true, false] rfl rfl (any_of HT_.out (by kernel_rfl)) (fun _ _ _ h => h) (Or.inl ⟨by rfl, ?_⟩) ?_ ?_
      rotate_left
      ·intro w'
       go_simp
       with_reducible rfl
      rotate_left
      ·simp only [Act.put, List.setIfInBounds_toArray, List.set_cons_zero, List.set_cons_succ, i64_w, i32_w]
       rfl
      refine pure_ (i := 11) (N := some 6) (v := ?_) (a' := ?_) #[true, true, true, true, true, true, true, true, true, true, true, true] rfl rfl (any_of HT_.out (by kernel_rfl)) (fun _ _ _ h => h) (Or.inl ⟨by rfl, ?_⟩) ?_ ?_
      rotate_left
      ·intro w'
       go_simp
       with_reducible rfl
      rotate_left
      ·simp only [Act.put, List.setIfInBounds_toArray, List.set_cons_zero, List.set_cons_succ, i64_w, i32_w]
       rfl
      refine done_ (done_of HT_.out (by kernel_rfl)) ?_
      try go_wp2
      exact ⟨⟨k + 1, hkt, rfl, by first | (rw [HD.out]; done) | (rw [HD.out]; rfl), HBo.out⟩, by simp [intOf]; omega⟩
     | false =>
      cases he : (rd_T37 plan k).f1 == (rd_T34 l i).f0 with
      | true =>
       have HD := Aside0.mk (show dnTo plan (rd_T34 l i).f0 (k + 1) = true from by simp [dnTo, hdn, he])
       have HBk := Aside0.mk (Below.refl wr.heap.size wr)
       obtain ⟨ap, eP, xp0, xp1, xp2, xp3⟩ := at_T37 (Kd.N_reads' PV.out).2.2 (k : Int) (by omega) (by omega)
       subst eP
       rw [Int.toNat_natCast] at xp1
       have XP1 := Aside0.mk xp1
       clear xp0 xp1 xp2 xp3
       go_wp2_with fail
       have nK_ := Aside0.mk (below_step HBk.out (below_drew (Below.refl wr.heap.size wr)))
       have nO_ := Aside0.mk (below_step HBo.out (below_drew (Below.refl wr.heap.size wr)))
       clear HBk HBo
       have HBk := nK_
       have HBo := nO_
       clear nK_ nO_
       have hb := below_drew (Below.refl wr.heap.size wr)
       have nFR_ := Aside0.mk (FR.out.trans (Frm.of_below hb))
       have nCP_ := Aside0.mk (blk_below CP.out hb)
       have nBV_ := Aside0.mk (Kd.N_below BV.out hb)
       have nPV_ := Aside0.mk (Kd.N_below PV.out hb)
       have nBX_ := Aside0.mk (blk_below BX.out hb)
       have nHBr_ := Aside0.mk (below_step HBr.out hb)
       clear hb FR CP BV PV BX HBr
       have FR := nFR_
       have CP := nCP_
       have BV := nBV_
       have PV := nPV_
       have BX := nBX_
       have HBr := nHBr_
       clear nFR_ nCP_ nBV_ nPV_ nBX_ nHBr_
       refine start_ (n := 12) (S := fun w' => w'.cell? ⟨(ap.add (k * 4)).block, (ap.add (k * 4)).off + 1, none⟩ = some (.int .i64 (rd_T37 plan k).f1) ∧ w'.cell? ⟨bx, 0, none⟩ = some (.int .i64 (rd_T34 l i).f0)) (ds := []) #[false, false, false, false, false, false, false, false, false, false, false, false] (by kernel_rfl) rfl rfl ⟨((HBk.out.cell (World.block_lt_of_cell? wr _ XP1.out)).trans XP1.out), ((blk_cell BX.out 0).trans rfl)⟩ (fun hHeld => ?_)
       refine with_tabW X46.tab11 X46.bits11 (fun HT_ HW_ => ?_)
       generalize wr.drew = wd at FR CP BV PV BX HBr HBk HBo hHeld ⊢
       refine pure_ (i := 0) (N := some 50) (v := ?_) (a' := ?_) #[true, false, false, false, false, false, false, false, false, false, false, false] rfl rfl (any_of HT_.out (by kernel_rfl)) (fun _ _ _ h => h) (Or.inl ⟨by rfl, ?_⟩) ?_ ?_
       rotate_left
       ·intro w'
        go_simp
        with_reducible rfl
       rotate_left
       ·simp only [Act.put, List.setIfInBounds_toArray, List.set_cons_zero, List.set_cons_succ, i64_w, i32_w]
        rfl
       refine pure_ (i := 1) (N := some 51) (v := ?_) (a' := ?_) #[true, true, false, false, false, false, false, false, false, false, false, false] rfl rfl (any_of HT_.out (by kernel_rfl)) (fun _ _ _ h => h) (Or.inl ⟨by rfl, ?_⟩) ?_ ?_
       rotate_left
       ·intro w'
        go_simp
        with_reducible rfl
       rotate_left
       ·simp only [Act.put, List.setIfInBounds_toArray, List.set_cons_zero, List.set_cons_succ, i64_w, i32_w]
        rfl
       refine pure_ (i := 2) (N := some 52) (v := ?_) (a' := ?_) #[true, true, true, false, false, false, false, false, false, false, false, false] rfl rfl (any_of HT_.out (by kernel_rfl)) (fun _ _ _ h => h) (Or.inl ⟨by rfl, ?_⟩) ?_ ?_
       rotate_left
       ·intro w'
        go_simp
        with_reducible rfl
       rotate_left
       ·simp only [Act.put, List.setIfInBounds_toArray, List.set_cons_zero, List.set_cons_succ, i64_w, i32_w]
        rfl
       refine pure_ (i := 3) (N := some 53) (v := ?_) (a' := ?_) #[true, true, true, true, false, false, false, false, false, false, false, false] rfl rfl (any_of HT_.out (by kernel_rfl)) (fun _ _ _ h => h) (Or.inl ⟨by rfl, ?_⟩) ?_ ?_
       rotate_left
       ·intro w'
        go_simp
        with_reducible rfl
       rotate_left
       ·simp only [Act.put, List.setIfInBounds_toArray, List.set_cons_zero, List.set_cons_succ, i64_w, i32_w]
        rfl
       refine pure_ (i := 4) (N := some 54) (v := ?_) (a' := ?_) #[true, true, true, true, true, false, false, false, false, false, false, false] rfl rfl (any_of HT_.out (by kernel_rfl)) (fun _ _ _ h => h) (Or.inl ⟨by rfl, ?_⟩) ?_ ?_
       rotate_left
       ·intro w'
        go_simp
        with_reducible rfl
       rotate_left
       ·simp only [Act.put, List.setIfInBounds_toArray, List.set_cons_zero, List.set_cons_succ, i64_w, i32_w]
        rfl
       refine pure_ (i := 5) (N := some 55) (v := ?_) (a' := ?_) #[true, true, true, true, true, true, false, false, false, false, false, false] rfl rfl (any_of HT_.out (by kernel_rfl)) (fun _ _ _ h => h) (Or.inl ⟨by rfl, ?_⟩) ?_ ?_
       rotate_left
       ·intro w'
        go_simp
        with_reducible rfl
       rotate_left
       ·simp only [Act.put, List.setIfInBounds_toArray, List.set_cons_zero, List.set_cons_succ, i64_w, i32_w]
        rfl
       refine pure_ (i := 7) (N := some 57) (v := ?_) (a' := ?_) #[true, true, true, true, true, true, false, true, false, false, false, false] rfl rfl (any_of HT_.out (by kernel_rfl)) (fun _ _ _ h => h) (Or.inl ⟨by rfl, ?_⟩) ?_ ?_
       rotate_left
       ·intro w'
        go_simp
        with_reducible rfl
       rotate_left
       ·simp only [Act.put, List.setIfInBounds_toArray, List.set_cons_zero, List.set_cons_succ, i64_w, i32_w]
        rfl
       refine take_ (i := 6) (N := some 56) (v := ?_) (a' := ?_) #[true, true, true, true, true, true, true, true, false, false, false, false] rfl rfl (take_ofW HT_.out HW_.out (by kernel_rfl)) (fun _ _ _ h => h) (Or.inl ⟨by rfl, ?_⟩) hHeld ?_ ?_
       rotate_left
       ·rintro w' ⟨s0, s1⟩
        go_simp
        with_reducible rfl
       rotate_left
       ·simp only [Act.put, List.setIfInBounds_toArray, List.set_cons_zero, List.set_cons_succ, i64_w, i32_w]
        rfl
       refine take_ (i := 8) (N := some 58) (v := ?_) (a' := ?_) #[true, true, true, true, true, true, true, true, true, false, false, false] rfl rfl (take_ofW HT_.out HW_.out (by kernel_rfl)) (fun _ _ _ h => h) (Or.inl ⟨by rfl, ?_⟩) hHeld ?_ ?_
       rotate_left
       ·rintro w' ⟨s0, s1⟩
        go_simp
        with_reducible rfl
       rotate_left
       ·simp only [Act.put, List.setIfInBounds_toArray, List.set_cons_zero, List.set_cons_succ, i64_w, i32_w]
        rfl
       refine pure_ (i := 9) (N := some 59) (v := ?_) (a' := ?_) #[true, true, true, true, true, true, true, true, true, true, false, false] rfl rfl (any_of HT_.out (by kernel_rfl)) (fun _ _ _ h => h) (Or.inl ⟨by rfl, ?_⟩) ?_ ?_
       rotate_left
       ·intro w'
        go_simp
        with_reducible rfl
       rotate_left
       ·simp only [Act.put, List.setIfInBounds_toArray, List.set_cons_zero, List.set_cons_succ, i64_w, i32_w]
        rfl
       refine pure_ (i := 10) (N := some 60) (v := ?_) (a' := ?_) #[true, true, true, true, true, true, true, true, true, true, true, false] rfl rfl (any_of HT_.out (by kernel_rfl)) (fun _ _ _ h => h) (Or.inl ⟨by rfl, ?_⟩) ?_ ?_
       rotate_left
       ·intro w'
        go_simp
        with_reducible rfl
       rotate_left
       ·simp only [Act.put, List.setIfInBounds_toArray, List.set_cons_zero, List.set_cons_succ, i64_w, i32_w]
        rfl
       refine pure_ (i := 11) (N := some 6) (v := ?_) (a' := ?_) #[true, true, true, true, true, true, true, true, true, true, true, true] rfl rfl (any_of HT_.out (by kernel_rfl)) (fun _ _ _ h => h) (Or.inl ⟨by rfl, ?_⟩) ?_ ?_
       rotate_left
       ·intro w'
        go_simp
        with_reducible rfl
       rotate_left
       ·simp only [Act.put, List.setIfInBounds_toArray, List.set_cons_zero, List.set_cons_succ, i64_w, i32_w]
        rfl
       refine done_ (done_of HT_.out (by kernel_rfl)) ?_
       try go_wp2
       exact ⟨⟨k + 1, hkt, rfl, by first | (rw [HD.out]; done) | (rw [HD.out]; rfl), HBo.out⟩, by simp [intOf]; omega⟩
      | false =>
       have HD := Aside0.mk (show dnTo plan (rd_T34 l i).f0 (k + 1) = false from by simp [dnTo, hdn, he])
       have HBk := Aside0.mk (Below.refl wr.heap.size wr)
       obtain ⟨ap, eP, xp0, xp1, xp2, xp3⟩ := at_T37 (Kd.N_reads' PV.out).2.2 (k : Int) (by omega) (by omega)
       subst eP
       rw [Int.toNat_natCast] at xp1
       have XP1 := Aside0.mk xp1
       clear xp0 xp1 xp2 xp3
       go_wp2_with fail
       have nK_ := Aside0.mk (below_step HBk.out (below_drew (Below.refl wr.heap.size wr)))
       have nO_ := Aside0.mk (below_step HBo.out (below_drew (Below.refl wr.heap.size wr)))
       clear HBk HBo
       have HBk := nK_
       have HBo := nO_
       clear nK_ nO_
       have hb := below_drew (Below.refl wr.heap.size wr)
       have nFR_ := Aside0.mk (FR.out.trans (Frm.of_below hb))
       have nCP_ := Aside0.mk (blk_below CP.out hb)
       have nBV_ := Aside0.mk (Kd.N_below BV.out hb)
       have nPV_ := Aside0.mk (Kd.N_below PV.out hb)
       have nBX_ := Aside0.mk (blk_below BX.out hb)
       have nHBr_ := Aside0.mk (below_step HBr.out hb)
       clear hb FR CP BV PV BX HBr
       have FR := nFR_
       have CP := nCP_
       have BV := nBV_
       have PV := nPV_
       have BX := nBX_
       have HBr := nHBr_
       clear nFR_ nCP_ nBV_ nPV_ nBX_ nHBr_
       refine start_ (n := 12) (S := fun w' => w'.cell? ⟨(ap.add (k * 4)).block, (ap.add (k * 4)).off + 1, none⟩ = some (.int .i64 (rd_T37 plan k).f1) ∧ w'.cell? ⟨bx, 0, none⟩ = some (.int .i64 (rd_T34 l i).f0)) (ds := []) #[false, false, false, false, false, false, false, false, false, false, false, false] (by kernel_rfl) rfl rfl ⟨((HBk.out.cell (World.block_lt_of_cell? wr _ XP1.out)).trans XP1.out), ((blk_cell BX.out 0).trans rfl)⟩ (fun hHeld => ?_)
       refine with_tabW X46.tab11 X46.bits11 (fun HT_ HW_ => ?_)
       generalize wr.drew = wd at FR CP BV PV BX HBr HBk HBo hHeld ⊢
       refine pure_ (i := 0) (N := some 50) (v := ?_) (a' := ?_) #[true, false, false, false, false, false, false, false, false, false, false, false] rfl rfl (any_of HT_.out (by kernel_rfl)) (fun _ _ _ h => h) (Or.inl ⟨by rfl, ?_⟩) ?_ ?_
       rotate_left
       ·intro w'
        go_simp
        with_reducible rfl
       rotate_left
       ·simp only [Act.put, List.setIfInBounds_toArray, List.set_cons_zero, List.set_cons_succ, i64_w, i32_w]
        rfl
       refine pure_ (i := 1) (N := some 51) (v := ?_) (a' := ?_) #[true, true, false, false, false, false, false, false, false, false, false, false] rfl rfl (any_of HT_.out (by kernel_rfl)) (fun _ _ _ h => h) (Or.inl ⟨by rfl, ?_⟩) ?_ ?_
       rotate_left
       ·intro w'
        go_simp
        with_reducible rfl
       rotate_left
       ·simp only [Act.put, List.setIfInBounds_toArray, List.set_cons_zero, List.set_cons_succ, i64_w, i32_w]
        rfl
       refine pure_ (i := 2) (N := some 52) (v := ?_) (a' := ?_) #[true, true, true, false, false, false, false, false, false, false, false, false] rfl rfl (any_of HT_.out (by kernel_rfl)) (fun _ _ _ h => h) (Or.inl ⟨by rfl, ?_⟩) ?_ ?_
       rotate_left
       ·intro w'
        go_simp
        with_reducible rfl
       rotate_left
       ·simp only [Act.put, List.setIfInBounds_toArray, List.set_cons_zero, List.set_cons_succ, i64_w, i32_w]
        rfl
       refine pure_ (i := 3) (N := some 53) (v := ?_) (a' := ?_) #[true, true, true, true, false, false, false, false, false, false, false, false] rfl rfl (any_of HT_.out (by kernel_rfl)) (fun _ _ _ h => h) (Or.inl ⟨by rfl, ?_⟩) ?_ ?_
       rotate_left
       ·intro w'
        go_simp
        with_reducible rfl
       rotate_left
       ·simp only [Act.put, List.setIfInBounds_toArray, List.set_cons_zero, List.set_cons_succ, i64_w, i32_w]
        rfl
       refine pure_ (i := 4) (N := some 54) (v := ?_) (a' := ?_) #[true, true, true, true, true, false, false, false, false, false, false, false] rfl rfl (any_of HT_.out (by kernel_rfl)) (fun _ _ _ h => h) (Or.inl ⟨by rfl, ?_⟩) ?_ ?_
       rotate_left
       ·intro w'
        go_simp
        with_reducible rfl
       rotate_left
       ·simp only [Act.put, List.setIfInBounds_toArray, List.set_cons_zero, List.set_cons_succ, i64_w, i32_w]
        rfl
       refine pure_ (i := 5) (N := some 55) (v := ?_) (a' := ?_) #[true, true, true, true, true, true, false, false, false, false, false, false] rfl rfl (any_of HT_.out (by kernel_rfl)) (fun _ _ _ h => h) (Or.inl ⟨by rfl, ?_⟩) ?_ ?_
       rotate_left
       ·intro w'
        go_simp
        with_reducible rfl
       rotate_left
       ·simp only [Act.put, List.setIfInBounds_toArray, List.set_cons_zero, List.set_cons_succ, i64_w, i32_w]
        rfl
       refine pure_ (i := 7) (N := some 57) (v := ?_) (a' := ?_) #[true, true, true, true, true, true, false, true, false, false, false, false] rfl rfl (any_of HT_.out (by kernel_rfl)) (fun _ _ _ h => h) (Or.inl ⟨by rfl, ?_⟩) ?_ ?_
       rotate_left
       ·intro w'
        go_simp
        with_reducible rfl
       rotate_left
       ·simp only [Act.put, List.setIfInBounds_toArray, List.set_cons_zero, List.set_cons_succ, i64_w, i32_w]
        rfl
       refine take_ (i := 6) (N := some 56) (v := ?_) (a' := ?_) #[true, true, true, true, true, true, true, true, false, false, false, false] rfl rfl (take_ofW HT_.out HW_.out (by kernel_rfl)) (fun _ _ _ h => h) (Or.inl ⟨by rfl, ?_⟩) hHeld ?_ ?_
       rotate_left
       ·rintro w' ⟨s0, s1⟩
        go_simp
        with_reducible rfl
       rotate_left
       ·simp only [Act.put, List.setIfInBounds_toArray, List.set_cons_zero, List.set_cons_succ, i64_w, i32_w]
        rfl
       refine take_ (i := 8) (N := some 58) (v := ?_) (a' := ?_) #[true, true, true, true, true, true, true, true, true, false, false, false] rfl rfl (take_ofW HT_.out HW_.out (by kernel_rfl)) (fun _ _ _ h => h) (Or.inl ⟨by rfl, ?_⟩) hHeld ?_ ?_
       rotate_left
       ·rintro w' ⟨s0, s1⟩
        go_simp
        with_reducible rfl
       rotate_left
       ·simp only [Act.put, List.setIfInBounds_toArray, List.set_cons_zero, List.set_cons_succ, i64_w, i32_w]
        rfl
       refine pure_ (i := 9) (N := some 59) (v := ?_) (a' := ?_) #[true, true, true, true, true, true, true, true, true, true, false, false] rfl rfl (any_of HT_.out (by kernel_rfl)) (fun _ _ _ h => h) (Or.inl ⟨by rfl, ?_⟩) ?_ ?_
       rotate_left
       ·intro w'
        go_simp
        with_reducible rfl
       rotate_left
       ·simp only [Act.put, List.setIfInBounds_toArray, List.set_cons_zero, List.set_cons_succ, i64_w, i32_w]
        rfl
       refine pure_ (i := 10) (N := some 60) (v := ?_) (a' := ?_) #[true, true, true, true, true, true, true, true, true, true, true, false] rfl rfl (any_of HT_.out (by kernel_rfl)) (fun _ _ _ h => h) (Or.inl ⟨by rfl, ?_⟩) ?_ ?_
       rotate_left
       ·intro w'
        go_simp
        with_reducible rfl
       rotate_left
       ·simp only [Act.put, List.setIfInBounds_toArray, List.set_cons_zero, List.set_cons_succ, i64_w, i32_w]
        rfl
       refine pure_ (i := 11) (N := some 6) (v := ?_) (a' := ?_) #[true, true, true, true, true, true, true, true, true, true, true, true] rfl rfl (any_of HT_.out (by kernel_rfl)) (fun _ _ _ h => h) (Or.inl ⟨by rfl, ?_⟩) ?_ ?_
       rotate_left
       ·intro w'
        go_simp
        with_reducible rfl
       rotate_left
       ·simp only [Act.put, List.setIfInBounds_toArray, List.set_cons_zero, List.set_cons_succ, i64_w, i32_w]
        rfl
       refine done_ (done_of HT_.out (by kernel_rfl)) ?_
       try go_wp2
       exact ⟨⟨k + 1, hkt, rfl, by first | (rw [HD.out]; done) | (rw [HD.out]; rfl), HBo.out⟩, by simp [intOf]; omega⟩
    ·obtain rfl : k = plan.length := by omega
     cases hdn : dnTo plan (rd_T34 l i).f0 plan.length with
     | true =>
      have HE := Aside0.mk (show upTo (niOf l win (nxt l win n) plan) (i + 1) (bp, be) = bi from by rw [upTo, HBI.out, niOf, if_pos (show dnV plan (rd_T34 l i).f0 = true from hdn)])
      go_wp2_with fail
      go_loopw [8] (fun v8 wq => v8 = .int .i64 1 ∧ Below wr.heap.size wr wq) (fun _ _ => 0)
      case atStart => exact ⟨rfl, Below.refl _ _⟩
      case round =>
       obtain ⟨rfl, hb⟩ := hrel
       have nFR_ := Aside0.mk (FR.out.trans (Frm.of_below hb))
       have nCP_ := Aside0.mk (blk_below CP.out hb)
       have nBV_ := Aside0.mk (Kd.N_below BV.out hb)
       have nPV_ := Aside0.mk (Kd.N_below PV.out hb)
       have nBX_ := Aside0.mk (blk_below BX.out hb)
       have nHBr_ := Aside0.mk (below_step HBr.out hb)
       clear hb FR CP BV PV BX HBr
       have FR := nFR_
       have CP := nCP_
       have BV := nBV_
       have PV := nPV_
       have BX := nBX_
       have HBr := nHBr_
       clear nFR_ nCP_ nBV_ nPV_ nBX_ nHBr_
       have hc_ := CP.out
       unfold seC at hc_
       have p0 := blk_cell hc_ 0
       have p1 := blk_cell hc_ 1
       have p2 := blk_cell hc_ 2
       have p3 := blk_cell hc_ 3
       simp only [List.getElem?_toArray, List.getElem?_cons_zero, List.getElem?_cons_succ] at p0 p1 p2 p3
       clear hc_
       have zp := blk_lt CP.out
       go_wp2
       all_goals exact ⟨⟨i + 1, hlt, rfl, vi, FR.out, by rw [HE.out]; exact CP.out, by rw [HE.out]; exact BV.out⟩, by simp [intOf]; omega⟩
     | false =>
      have HE1 := Aside0.mk (show upTo (niOf l win (nxt l win n) plan) (i + 1) (bp, be) = upTo (ngOf l win (nxt l win n) plan i) win.length bi from by rw [upTo, HBI.out, niOf, if_neg (fun h => by rw [dnV, hdn] at h; exact absurd h (by decide))])
      go_wp2_with fail
      go_loopw [8] (fun v8 wq => ∃ g : Nat, g ≤ win.length ∧ v8 = .int .i64 ((g : Int) + 1) ∧ ∃ vb' : Value, Frm (fun k => k = P) w wq ∧ wq.heap[P]? = some (seC l (some ai) cl win Aw cw (upTo (ngOf l win (nxt l win n) plan i) g bi).2 vb') ∧ Kd.N k37 37 wq w0.heap.size (fun k => k ≠ P) vb' (upTo (ngOf l win (nxt l win n) plan i) g bi).1 ∧ wq.heap[bx]? = some (.cells #[.int .i64 (rd_T34 l i).f0, .int .i64 (rd_T34 l i).f1, .bool (rd_T34 l i).f2, .slice A3 (rd_T34 l i).f3.length c3] 34 (0, 0))) (fun v8 _ => win.length + 1 - (intOf v8).toNat)
      case atStart => exact ⟨0, Nat.zero_le _, rfl, vi, FR.out, CP.out, BV.out, BX.out⟩
      case round =>
       clear FR CP BV BX PV HBr HBo
       obtain ⟨g, hg, rfl, vg, hfr, hcp, hbv, hbx⟩ := hrel
       generalize hbg : upTo (ngOf l win (nxt l win n) plan i) g bi = bg at hcp hbv
       have HBG := Aside0.mk hbg
       have BX := Aside0.mk hbx
       clear hbg hbx
       have FR := Aside0.mk hfr
       have CP := Aside0.mk hcp
       have BV := Aside0.mk hbv
       clear hfr hcp hbv
       have PV := Aside0.mk (Kd.N_step HPV.out (fun k hk hlt => FR.out.block k hlt hk))
       have HBr := Aside0.mk (FR.out.below HB0.out (fun k hk => (show k = P from hk) ▸ hP))
       have hc_ := CP.out
       unfold seC at hc_
       have p0 := blk_cell hc_ 0
       have p1 := blk_cell hc_ 1
       have p2 := blk_cell hc_ 2
       have p3 := blk_cell hc_ 3
       simp only [List.getElem?_toArray, List.getElem?_cons_zero, List.getElem?_cons_succ] at p0 p1 p2 p3
       clear hc_
       have zp := blk_lt CP.out
       by_cases hgt : g < win.length
       ·obtain ⟨aw, eW, xw⟩ := Kd.at_bool HW.out (g : Int) (by omega) (by omega)
        subst eW
        rw [Int.toNat_natCast] at xw
        have XW := Aside0.mk xw
        clear xw
        have s0 := blk_cell BX.out 0
        have s1 := blk_cell BX.out 1
        have s2 := blk_cell BX.out 2
        have s3 := blk_cell BX.out 3
        simp only [List.getElem?_toArray, List.getElem?_cons_zero, List.getElem?_cons_succ] at s0 s1 s2 s3
        have zbx := blk_lt BX.out
        go_wp2_with fail
        clear s0 s1 s2 s3 zbx
        clear p0 p1 p2 p3 zp
        refine (from_calls l (some ai) cl P (.slice (some aw) win.length cw) vg bg.2 plan Ap cp (rd_T34 l i) A3 c3 ((g : Int) + 1) _ (by have h_ := CP.out; unfold seC at h_; exact h_) (Kd.C_below HL.out HBr.out) hlcl (Kd.N_reads' PV.out).2.2 (Kd.C_below HII.out HBr.out) HCI.out HIN.out).mono ?_
        rintro e_ wy ⟨rfl, hb⟩
        have nFR_ := Aside0.mk (FR.out.trans (Frm.of_below hb))
        have nCP_ := Aside0.mk (blk_below CP.out hb)
        have nBV_ := Aside0.mk (Kd.N_below BV.out hb)
        have nPV_ := Aside0.mk (Kd.N_below PV.out hb)
        have nBX_ := Aside0.mk (blk_below BX.out hb)
        have nHBr_ := Aside0.mk (below_step HBr.out hb)
        clear hb FR CP BV PV BX HBr
        have FR := nFR_
        have CP := nCP_
        have BV := nBV_
        have PV := nPV_
        have BX := nBX_
        have HBr := nHBr_
        clear nFR_ nCP_ nBV_ nPV_ nBX_ nHBr_
        have HTO := Aside0.mk (show wrap64 (frV l plan (rd_T34 l i) ((g : Int) + 1) + (rd_T34 l i).f1) = rto l plan i g from rfl)
        by_cases hto : rto l plan i g < bg.2
        ·have q5 : decide (wrap64 (frV l plan (rd_T34 l i) ((g : Int) + 1) + (rd_T34 l i).f1) < bg.2) = true := decide_eq_true hto
         by_cases hok : rdOf false win g = true ∨ (rd_T34 l i).f2 = false
         ·have HE := Aside0.mk (show upTo (ngOf l win (nxt l win n) plan i) (g + 1) bi = nxt l win n (plan ++ [radd l plan i g]) bg from by rw [upTo, HBG.out, ngOf, if_pos ⟨hto, hok⟩])
          clear hto
          have hwy : rdOf false win g = true ∨ (rdOf false win g = false ∧ (rd_T34 l i).f2 = false) := by cases h1 : (rd_T34 l i).f2 <;> cases h2 : rdOf false win g <;> simp_all
          clear hok
          rcases hwy with hwg | ⟨hwg, hwx⟩
          go_wp2_with fail
          have qz : wrap64 (g : Int) = (g : Int) := by rw [wrap_id (by omega)]
          have hb := below_drew (Below.refl wy.heap.size wy)
          have nFR_ := Aside0.mk (FR.out.trans (Frm.of_below hb))
          have nCP_ := Aside0.mk (blk_below CP.out hb)
          have nBV_ := Aside0.mk (Kd.N_below BV.out hb)
          have nPV_ := Aside0.mk (Kd.N_below PV.out hb)
          have nBX_ := Aside0.mk (blk_below BX.out hb)
          have nHBr_ := Aside0.mk (below_step HBr.out hb)
          clear hb FR CP BV PV BX HBr
          have FR := nFR_
          have CP := nCP_
          have BV := nBV_
          have PV := nPV_
          have BX := nBX_
          have HBr := nHBr_
          clear nFR_ nCP_ nBV_ nPV_ nBX_ nHBr_
          refine start_ (n := 24) (S := fun w' => w'.cell? ⟨P, 2, none⟩ = some (.int .i64 bg.2) ∧ w'.cell? ⟨P, 1, none⟩ = some (.slice (some aw) win.length cw) ∧ w'.cell? (aw.add g) = some (.bool (rdOf false win g)) ∧ w'.cell? ⟨bx, 1, none⟩ = some (.int .i64 (rd_T34 l i).f1) ∧ w'.cell? ⟨bx, 2, none⟩ = some (.bool (rd_T34 l i).f2)) (ds := []) #[false, false, false, false, false, false, false, false, false, false, false, false, false, false, false, false, false, false, false, false, false, false, false, false] (by kernel_rfl) rfl rfl ⟨((blk_cell CP.out 2).trans rfl), ((blk_cell CP.out 1).trans rfl), ((HBr.out.cell (World.block_lt_of_cell? w0 _ XW.out)).trans XW.out), ((blk_cell BX.out 1).trans rfl), ((blk_cell BX.out 2).trans rfl)⟩ (fun hHeld => ?_)
          refine with_tabW X46.tab16 X46.bits16 (fun HT_ HW_ => ?_)
          generalize wy.drew = wd at FR CP BV PV BX HBr hHeld ⊢
          refine pure_ (i := 0) (N := some 79) (v := ?_) (a' := ?_) #[true, false, false, false, false, false, false, false, false, false, false, false, false, false, false, false, false, false, false, false, false, false, false, false] rfl rfl (any_of HT_.out (by kernel_rfl)) (fun _ _ _ h => h) (Or.inl ⟨by rfl, ?_⟩) ?_ ?_
          rotate_left
          ·intro w'
           go_simp
           with_reducible rfl
          rotate_left
          ·simp only [Act.put, List.setIfInBounds_toArray, List.set_cons_zero, List.set_cons_succ, i64_w, i32_w]
           rfl
          refine pure_ (i := 1) (N := some 80) (v := ?_) (a' := ?_) #[true, true, false, false, false, false, false, false, false, false, false, false, false, false, false, false, false, false, false, false, false, false, false, false] rfl rfl (any_of HT_.out (by kernel_rfl)) (fun _ _ _ h => h) (Or.inl ⟨by rfl, ?_⟩) ?_ ?_
          rotate_left
          ·intro w'
           go_simp
           with_reducible rfl
          rotate_left
          ·simp only [Act.put, List.setIfInBounds_toArray, List.set_cons_zero, List.set_cons_succ, i64_w, i32_w]
           rfl
          refine pure_ (i := 4) (N := some 83) (v := ?_) (a' := ?_) #[true, true, false, false, true, false, false, false, false, false, false, false, false, false, false, false, false, false, false, false, false, false, false, false] rfl rfl (any_of HT_.out (by kernel_rfl)) (fun _ _ _ h => h) (Or.inl ⟨by rfl, ?_⟩) ?_ ?_
          rotate_left
          ·intro w'
           go_simp
           with_reducible rfl
          rotate_left
          ·simp only [Act.put, List.setIfInBounds_toArray, List.set_cons_zero, List.set_cons_succ, i64_w, i32_w]
           rfl
          refine pure_ (i := 5) (N := some 84) (v := ?_) (a' := ?_) #[true, true, false, false, true, true, false, false, false, false, false, false, false, false, false, false, false, false, false, false, false, false, false, false] rfl rfl (any_of HT_.out (by kernel_rfl)) (fun _ _ _ h => h) (Or.inl ⟨by rfl, ?_⟩) ?_ ?_
          rotate_left
          ·intro w'
           go_simp
           with_reducible rfl
          rotate_left
          ·simp only [Act.put, List.setIfInBounds_toArray, List.set_cons_zero, List.set_cons_succ, i64_w, i32_w]
           rfl
          refine pure_ (i := 6) (N := some 85) (v := ?_) (a' := ?_) #[true, true, false, false, true, true, true, false, false, false, false, false, false, false, false, false, false, false, false, false, false, false, false, false] rfl rfl (any_of HT_.out (by kernel_rfl)) (fun _ _ _ h => h) (Or.inl ⟨by rfl, ?_⟩) ?_ ?_
          rotate_left
          ·intro w'
           go_simp
           with_reducible rfl
          rotate_left
          ·simp only [Act.put, List.setIfInBounds_toArray, List.set_cons_zero, List.set_cons_succ, i64_w, i32_w]
           rfl
          refine take_ (i := 2) (N := some 81) (v := ?_) (a' := ?_) #[true, true, true, false, true, true, true, false, false, false, false, false, false, false, false, false, false, false, false, false, false, false, false, false] rfl rfl (take_ofW HT_.out HW_.out (by kernel_rfl)) (fun _ _ _ h => h) (Or.inl ⟨by rfl, ?_⟩) hHeld ?_ ?_
          rotate_left
          ·rintro w' ⟨s0, s1, s2, s3, s4⟩
           go_simp
           with_reducible rfl
          rotate_left
          ·simp only [Act.put, List.setIfInBounds_toArray, List.set_cons_zero, List.set_cons_succ, i64_w, i32_w]
           rfl
          refine pure_ (i := 3) (N := some 82) (v := ?_) (a' := ?_) #[true, true, true, true, true, true, true, false, false, false, false, false, false, false, false, false, false, false, false, false, false, false, false, false] rfl rfl (any_of HT_.out (by kernel_rfl)) (fun _ _ _ h => h) (Or.inl ⟨by rfl, ?_⟩) ?_ ?_
          rotate_left
          ·intro w'
           go_simp
           with_reducible rfl
          rotate_left
          ·simp only [Act.put, List.setIfInBounds_toArray, List.set_cons_zero, List.set_cons_succ, i64_w, i32_w]
           rfl
          refine take_ (i := 7) (N := some 86) (v := ?_) (a' := ?_) #[true, true, true, true, true, true, true, true, false, false, false, false, false, false, false, false, false, false, false, false, false, false, false, false] rfl rfl (take_ofW HT_.out HW_.out (by kernel_rfl)) (fun _ _ _ h => h) (Or.inl ⟨by rfl, ?_⟩) hHeld ?_ ?_
          rotate_left
          ·rintro w' ⟨s0, s1, s2, s3, s4⟩
           go_simp
           with_reducible rfl
          rotate_left
          ·simp only [Act.put, List.setIfInBounds_toArray, List.set_cons_zero, List.set_cons_succ, i64_w, i32_w]
           rfl
          refine pure_ (i := 8) (N := some 87) (v := ?_) (a' := ?_) #[true, true, true, true, true, true, true, true, true, false, false, false, false, false, false, false, false, false, false, false, false, false, false, false] rfl rfl (any_of HT_.out (by kernel_rfl)) (fun _ _ _ h => h) (Or.inl ⟨by rfl, ?_⟩) ?_ ?_
          rotate_left
          ·intro w'
           go_simp
           with_reducible rfl
          rotate_left
          ·simp only [Act.put, List.setIfInBounds_toArray, List.set_cons_zero, List.set_cons_succ, i64_w, i32_w]
           rfl
          refine pure_ (i := 9) (N := some 88) (v := ?_) (a' := ?_) #[true, true, true, true, true, true, true, true, true, true, false, false, false, false, false, false, false, false, false, false, false, false, false, false] rfl rfl (any_of HT_.out (by kernel_rfl)) (fun _ _ _ h => h) (Or.inl ⟨by rfl, ?_⟩) ?_ ?_
          rotate_left
          ·intro w'
           go_simp
           with_reducible rfl
          rotate_left
          ·simp only [Act.put, List.setIfInBounds_toArray, List.set_cons_zero, List.set_cons_succ, i64_w, i32_w]
           rfl
          refine pure_ (i := 10) (N := some 89) (v := ?_) (a' := ?_) #[true, true, true, true, true, true, true, true, true, true, true, false, false, false, false, false, false, false, false, false, false, false, false, false] rfl rfl (any_of HT_.out (by kernel_rfl)) (fun _ _ _ h => h) (Or.inl ⟨by rfl, ?_⟩) ?_ ?_
          rotate_left
          ·intro w'
           go_simp
           with_reducible rfl
          rotate_left
          ·simp only [Act.put, List.setIfInBounds_toArray, List.set_cons_zero, List.set_cons_succ, i64_w, i32_w]
           rfl
          refine pure_ (i := 11) (N := some 90) (v := ?_) (a' := ?_) #[true, true, true, true, true, true, true, true, true, true, true, true, false, false, false, false, false, false, false, false, false, false, false, false] rfl rfl (any_of HT_.out (by kernel_rfl)) (fun _ _ _ h => h) (Or.inl ⟨by rfl, ?_⟩) ?_ ?_
          rotate_left
          ·intro w'
           go_simp
           with_reducible rfl
          rotate_left
          ·simp only [Act.put, List.setIfInBounds_toArray, List.set_cons_zero, List.set_cons_succ, i64_w, i32_w]
           rfl
          refine pure_ (i := 12) (N := some 91) (v := ?_) (a' := ?_) #[true, true, true, true, true, true, true, true, true, true, true, true, true, false, false, false, false, false, false, false, false, false, false, false] rfl rfl (any_of HT_.out (by kernel_rfl)) (fun _ _ _ h => h) (Or.inl ⟨by rfl, ?_⟩) ?_ ?_
          rotate_left
          ·intro w'
           go_simp
           with_reducible rfl
          rotate_left
          ·simp only [Act.put, List.setIfInBounds_toArray, List.set_cons_zero, List.set_cons_succ, i64_w, i32_w]
           rfl
          refine pure_ (i := 14) (N := some 93) (v := ?_) (a' := ?_) #[true, true, true, true, true, true, true, true, true, true, true, true, true, false, true, false, false, false, false, false, false, false, false, false] rfl rfl (any_of HT_.out (by kernel_rfl)) (fun _ _ _ h => h) (Or.inl ⟨by rfl, ?_⟩) ?_ ?_
          rotate_left
          ·intro w'
           go_simp
           with_reducible rfl
          rotate_left
          ·simp only [Act.put, List.setIfInBounds_toArray, List.set_cons_zero, List.set_cons_succ, i64_w, i32_w]
           rfl
          refine pure_ (i := 15) (N := some 94) (v := ?_) (a' := ?_) #[true, true, true, true, true, true, true, true, true, true, true, true, true, false, true, true, false, false, false, false, false, false, false, false] rfl rfl (any_of HT_.out (by kernel_rfl)) (fun _ _ _ h => h) (Or.inl ⟨by rfl, ?_⟩) ?_ ?_
          rotate_left
          ·intro w'
           go_simp
           with_reducible rfl
          rotate_left
          ·simp only [Act.put, List.setIfInBounds_toArray, List.set_cons_zero, List.set_cons_succ, i64_w, i32_w]
           rfl
          refine take_ (i := 13) (N := some 92) (v := ?_) (a' := ?_) #[true, true, true, true, true, true, true, true, true, true, true, true, true, true, true, true, false, false, false, false, false, false, false, false] rfl rfl (take_ofW HT_.out HW_.out (by kernel_rfl)) (fun _ _ _ h => h) (Or.inl ⟨by rfl, ?_⟩) hHeld ?_ ?_
          rotate_left
          ·rintro w' ⟨s0, s1, s2, s3, s4⟩
           go_simp
           with_reducible rfl
          rotate_left
          ·simp only [Act.put, List.setIfInBounds_toArray, List.set_cons_zero, List.set_cons_succ, i64_w, i32_w]
           rfl
          refine pure_ (i := 16) (N := some 95) (v := ?_) (a' := ?_) #[true, true, true, true, true, true, true, true, true, true, true, true, true, true, true, true, true, false, false, false, false, false, false, false] rfl rfl (any_of HT_.out (by kernel_rfl)) (fun _ _ _ h => h) (Or.inl ⟨by rfl, ?_⟩) ?_ ?_
          rotate_left
          ·intro w'
           go_simp
           with_reducible rfl
          rotate_left
          ·simp only [Act.put, List.setIfInBounds_toArray, List.set_cons_zero, List.set_cons_succ, i64_w, i32_w]
           rfl
          refine take_ (i := 17) (N := some 96) (v := ?_) (a' := ?_) #[true, true, true, true, true, true, true, true, true, true, true, true, true, true, true, true, true, true, false, false, false, false, false, false] rfl rfl (take_ofW HT_.out HW_.out (by kernel_rfl)) (fun _ _ _ h => h) (Or.inl ⟨by rfl, ?_⟩) hHeld ?_ ?_
          rotate_left
          ·rintro w' ⟨s0, s1, s2, s3, s4⟩
           go_simp
           with_reducible rfl
          rotate_left
          ·simp only [Act.put, List.setIfInBounds_toArray, List.set_cons_zero, List.set_cons_succ, i64_w, i32_w]
           rfl
          refine pure_ (i := 18) (N := some 97) (v := ?_) (a' := ?_) #[true, true, true, true, true, true, true, true, true, true, true, true, true, true, true, true, true, true, true, false, false, false, false, false] rfl rfl (any_of HT_.out (by kernel_rfl)) (fun _ _ _ h => h) (Or.inl ⟨by rfl, ?_⟩) ?_ ?_
          rotate_left
          ·intro w'
           go_simp
           with_reducible rfl
          rotate_left
          ·simp only [Act.put, List.setIfInBounds_toArray, List.set_cons_zero, List.set_cons_succ, i64_w, i32_w]
           rfl
          refine pure_ (i := 19) (N := some 98) (v := undef) (a' := ?_) #[true, true, true, true, true, true, true, true, true, true, true, true, true, true, true, true, true, true, true, true, false, false, false, false] rfl rfl (any_of HT_.out (by kernel_rfl)) (fun _ _ _ h => h) (Or.inr ⟨by rfl, rfl⟩) ?_ ?_
          rotate_left
          ·simp only [Act.put, List.setIfInBounds_toArray, List.set_cons_zero, List.set_cons_succ, i64_w, i32_w]
           rfl
          refine pure_ (i := 20) (N := some 99) (v := undef) (a' := ?_) #[true, true, true, true, true, true, true, true, true, true, true, true, true, true, true, true, true, true, true, true, true, false, false, false] rfl rfl (any_of HT_.out (by kernel_rfl)) (fun _ _ _ h => h) (Or.inr ⟨by rfl, rfl⟩) ?_ ?_
          rotate_left
          ·simp only [Act.put, List.setIfInBounds_toArray, List.set_cons_zero, List.set_cons_succ, i64_w, i32_w]
           rfl
          refine pure_ (i := 21) (N := some 100) (v := undef) (a' := ?_) #[true, true, true, true, true, true, true, true, true, true, true, true, true, true, true, true, true, true, true, true, true, true, false, false] rfl rfl (any_of HT_.out (by kernel_rfl)) (fun _ _ _ h => h) (Or.inr ⟨by rfl, rfl⟩) ?_ ?_
          rotate_left
          ·simp only [Act.put, List.setIfInBounds_toArray, List.set_cons_zero, List.set_cons_succ, i64_w, i32_w]
           rfl
          refine pure_ (i := 22) (N := some 101) (v := ?_) (a' := ?_) #[true, true, true, true, true, true, true, true, true, true, true, true, true, true, true, true, true, true, true, true, true, true, true, false] rfl rfl (any_of HT_.out (by kernel_rfl)) (fun _ _ _ h => h) (Or.inl ⟨by rfl, ?_⟩) ?_ ?_
          rotate_left
          ·intro w'
           go_simp
           with_reducible rfl
          rotate_left
          ·simp only [Act.put, List.setIfInBounds_toArray, List.set_cons_zero, List.set_cons_succ, i64_w, i32_w]
           rfl
          refine pure_ (i := 23) (N := some 102) (v := ?_) (a' := ?_) #[true, true, true, true, true, true, true, true, true, true, true, true, true, true, true, true, true, true, true, true, true, true, true, true] rfl rfl (any_of HT_.out (by kernel_rfl)) (fun _ _ _ h => h) (Or.inl ⟨by rfl, ?_⟩) ?_ ?_
          rotate_left
          ·intro w'
           go_simp
           with_reducible rfl
          rotate_left
          ·simp only [Act.put, List.setIfInBounds_toArray, List.set_cons_zero, List.set_cons_succ, i64_w, i32_w]
           rfl
          refine done_ (done_of HT_.out (by kernel_rfl)) ?_
          clear qz
          go_wp2_with fail
          rotate_left
          have HWX := Aside0.mk hwx
          clear hwx
          go_wp2_with fail
          have qz : wrap64 (g : Int) = (g : Int) := by rw [wrap_id (by omega)]
          have hwx_ := HWX.out
          have hb := below_drew (Below.refl wy.heap.size wy)
          have nFR_ := Aside0.mk (FR.out.trans (Frm.of_below hb))
          have nCP_ := Aside0.mk (blk_below CP.out hb)
          have nBV_ := Aside0.mk (Kd.N_below BV.out hb)
          have nPV_ := Aside0.mk (Kd.N_below PV.out hb)
          have nBX_ := Aside0.mk (blk_below BX.out hb)
          have nHBr_ := Aside0.mk (below_step HBr.out hb)
          clear hb FR CP BV PV BX HBr
          have FR := nFR_
          have CP := nCP_
          have BV := nBV_
          have PV := nPV_
          have BX := nBX_
          have HBr := nHBr_
          clear nFR_ nCP_ nBV_ nPV_ nBX_ nHBr_
          refine start_ (n := 24) (S := fun w' => w'.cell? ⟨P, 2, none⟩ = some (.int .i64 bg.2) ∧ w'.cell? ⟨P, 1, none⟩ = some (.slice (some aw) win.length cw) ∧ w'.cell? (aw.add g) = some (.bool (rdOf false win g)) ∧ w'.cell? ⟨bx, 1, none⟩ = some (.int .i64 (rd_T34 l i).f1) ∧ w'.cell? ⟨bx, 2, none⟩ = some (.bool (rd_T34 l i).f2)) (ds := []) #[false, false, false, false, false, false, false, false, false, false, false, false, false, false, false, false, false, false, false, false, false, false, false, false] (by kernel_rfl) rfl rfl ⟨((blk_cell CP.out 2).trans rfl), ((blk_cell CP.out 1).trans rfl), ((HBr.out.cell (World.block_lt_of_cell? w0 _ XW.out)).trans XW.out), ((blk_cell BX.out 1).trans rfl), ((blk_cell BX.out 2).trans rfl)⟩ (fun hHeld => ?_)
          refine with_tabW X46.tab16 X46.bits16 (fun HT_ HW_ => ?_)
          generalize wy.drew = wd at FR CP BV PV BX HBr hHeld ⊢
          refine pure_ (i := 0) (N := some 79) (v := ?_) (a' := ?_) #[true, false, false, false, false, false, false, false, false, false, false, false, false, false, false, false, false, false, false, false, false, false, false, false] rfl rfl (any_of HT_.out (by kernel_rfl)) (fun _ _ _ h => h) (Or.inl ⟨by rfl, ?_⟩) ?_ ?_
          rotate_left
          ·intro w'
           go_simp
           with_reducible rfl
          rotate_left
          ·simp only [Act.put, List.setIfInBounds_toArray, List.set_cons_zero, List.set_cons_succ, i64_w, i32_w]
           rfl
          refine pure_ (i := 1) (N := some 80) (v := ?_) (a' := ?_) #[true, true, false, false, false, false, false, false, false, false, false, false, false, false, false, false, false, false, false, false, false, false, false, false] rfl rfl (any_of HT_.out (by kernel_rfl)) (fun _ _ _ h => h) (Or.inl ⟨by rfl, ?_⟩) ?_ ?_
          rotate_left
          ·intro w'
           go_simp
           with_reducible rfl
          rotate_left
          ·simp only [Act.put, List.setIfInBounds_toArray, List.set_cons_zero, List.set_cons_succ, i64_w, i32_w]
           rfl
          refine pure_ (i := 4) (N := some 83) (v := ?_) (a' := ?_) #[true, true, false, false, true, false, false, false, false, false, false, false, false, false, false, false, false, false, false, false, false, false, false, false] rfl rfl (any_of HT_.out (by kernel_rfl)) (fun _ _ _ h => h) (Or.inl ⟨by rfl, ?_⟩) ?_ ?_
          rotate_left
          ·intro w'
           go_simp
           with_reducible rfl
          rotate_left
          ·simp only [Act.put, List.setIfInBounds_toArray, List.set_cons_zero, List.set_cons_succ, i64_w, i32_w]
           rfl
          refine pure_ (i := 5) (N := some 84) (v := ?_) (a' := ?_) #[true, true, false, false, true, true, false, false, false, false, false, false, false, false, false, false, false, false, false, false, false, false, false, false] rfl rfl (any_of HT_.out (by kernel_rfl)) (fun _ _ _ h => h) (Or.inl ⟨by rfl, ?_⟩) ?_ ?_
          rotate_left
          ·intro w'
           go_simp
           with_reducible rfl
          rotate_left
          ·simp only [Act.put, List.setIfInBounds_toArray, List.set_cons_zero, List.set_cons_succ, i64_w, i32_w]
           rfl
          refine pure_ (i := 6) (N := some 85) (v := ?_) (a' := ?_) #[true, true, false, false, true, true, true, false, false, false, false, false, false, false, false, false, false, false, false, false, false, false, false, false] rfl rfl (any_of HT_.out (by kernel_rfl)) (fun _ _ _ h => h) (Or.inl ⟨by rfl, ?_⟩) ?_ ?_
          rotate_left
          ·intro w'
           go_simp
           with_reducible rfl
          rotate_left
          ·simp only [Act.put, List.setIfInBounds_toArray, List.set_cons_zero, List.set_cons_succ, i64_w, i32_w]
           rfl
          refine take_ (i := 2) (N := some 81) (v := ?_) (a' := ?_) #[true, true, true, false, true, true, true, false, false, false, false, false, false, false, false, false, false, false, false, false, false, false, false, false] rfl rfl (take_ofW HT_.out HW_.out (by kernel_rfl)) (fun _ _ _ h => h) (Or.inl ⟨by rfl, ?_⟩) hHeld ?_ ?_
          rotate_left
          ·rintro w' ⟨s0, s1, s2, s3, s4⟩
           go_simp
           with_reducible rfl
          rotate_left
          ·simp only [Act.put, List.setIfInBounds_toArray, List.set_cons_zero, List.set_cons_succ, i64_w, i32_w]
           rfl
          refine pure_ (i := 3) (N := some 82) (v := ?_) (a' := ?_) #[true, true, true, true, true, true, true, false, false, false, false, false, false, false, false, false, false, false, false, false, false, false, false, false] rfl rfl (any_of HT_.out (by kernel_rfl)) (fun _ _ _ h => h) (Or.inl ⟨by rfl, ?_⟩) ?_ ?_
          rotate_left
          ·intro w'
           go_simp
           with_reducible rfl
          rotate_left
          ·simp only [Act.put, List.setIfInBounds_toArray, List.set_cons_zero, List.set_cons_succ, i64_w, i32_w]
           rfl
          refine take_ (i := 7) (N := some 86) (v := ?_) (a' := ?_) #[true, true, true, true, true, true, true, true, false, false, false, false, false, false, false, false, false, false, false, false, false, false, false, false] rfl rfl (take_ofW HT_.out HW_.out (by kernel_rfl)) (fun _ _ _ h => h) (Or.inl ⟨by rfl, ?_⟩) hHeld ?_ ?_
          rotate_left
          ·rintro w' ⟨s0, s1, s2, s3, s4⟩
           go_simp
           with_reducible rfl
          rotate_left
          ·simp only [Act.put, List.setIfInBounds_toArray, List.set_cons_zero, List.set_cons_succ, i64_w, i32_w]
           rfl
          refine pure_ (i := 8) (N := some 87) (v := ?_) (a' := ?_) #[true, true, true, true, true, true, true, true, true, false, false, false, false, false, false, false, false, false, false, false, false, false, false, false] rfl rfl (any_of HT_.out (by kernel_rfl)) (fun _ _ _ h => h) (Or.inl ⟨by rfl, ?_⟩) ?_ ?_
          rotate_left
          ·intro w'
           go_simp
           with_reducible rfl
          rotate_left
          ·simp only [Act.put, List.setIfInBounds_toArray, List.set_cons_zero, List.set_cons_succ, i64_w, i32_w]
           rfl
          refine pure_ (i := 9) (N := some 88) (v := ?_) (a' := ?_) #[true, true, true, true, true, true, true, true, true, true, false, false, false, false, false, false, false, false, false, false, false, false, false, false] rfl rfl (any_of HT_.out (by kernel_rfl)) (fun _ _ _ h => h) (Or.inl ⟨by rfl, ?_⟩) ?_ ?_
          rotate_left
          ·intro w'
           go_simp
           with_reducible rfl
          rotate_left
          ·simp only [Act.put, List.setIfInBounds_toArray, List.set_cons_zero, List.set_cons_succ, i64_w, i32_w]
           rfl
          refine pure_ (i := 10) (N := some 89) (v := ?_) (a' := ?_) #[true, true, true, true, true, true, true, true, true, true, true, false, false, false, false, false, false, false, false, false, false, false, false, false] rfl rfl (any_of HT_.out (by kernel_rfl)) (fun _ _ _ h => h) (Or.inl ⟨by rfl, ?_⟩) ?_ ?_
          rotate_left
          ·intro w'
           go_simp
           with_reducible rfl
          rotate_left
          ·simp only [Act.put, List.setIfInBounds_toArray, List.set_cons_zero, List.set_cons_succ, i64_w, i32_w]
           rfl
          refine pure_ (i := 11) (N := some 90) (v := ?_) (a' := ?_) #[true, true, true, true, true, true, true, true, true, true, true, true, false, false, false, false, false, false, false, false, false, false, false, false] rfl rfl (any_of HT_.out (by kernel_rfl)) (fun _ _ _ h => h) (Or.inl ⟨by rfl, ?_⟩) ?_ ?_
          rotate_left
          ·intro w'
           go_simp
           with_reducible rfl
          rotate_left
          ·simp only [Act.put, List.setIfInBounds_toArray, List.set_cons_zero, List.set_cons_succ, i64_w, i32_w]
           rfl
          refine pure_ (i := 12) (N := some 91) (v := ?_) (a' := ?_) #[true, true, true, true, true, true, true, true, true, true, true, true, true, false, false, false, false, false, false, false, false, false, false, false] rfl rfl (any_of HT_.out (by kernel_rfl)) (fun _ _ _ h => h) (Or.inl ⟨by rfl, ?_⟩) ?_ ?_
          rotate_left
          ·intro w'
           go_simp
           with_reducible rfl
          rotate_left
          ·simp only [Act.put, List.setIfInBounds_toArray, List.set_cons_zero, List.set_cons_succ, i64_w, i32_w]
           rfl
          refine pure_ (i := 14) (N := some 93) (v := ?_) (a' := ?_) #[true, true, true, true, true, true, true, true, true, true, true, true, true, false, true, false, false, false, false, false, false, false, false, false] rfl rfl (any_of HT_.out (by kernel_rfl)) (fun _ _ _ h => h) (Or.inl ⟨by rfl, ?_⟩) ?_ ?_
          rotate_left
          ·intro w'
           go_simp
           with_reducible rfl
          rotate_left
          ·simp only [Act.put, List.setIfInBounds_toArray, List.set_cons_zero, List.set_cons_succ, i64_w, i32_w]
           rfl
          refine pure_ (i := 15) (N := some 94) (v := ?_) (a' := ?_) #[true, true, true, true, true, true, true, true, true, true, true, true, true, false, true, true, false, false, false, false, false, false, false, false] rfl rfl (any_of HT_.out (by kernel_rfl)) (fun _ _ _ h => h) (Or.inl ⟨by rfl, ?_⟩) ?_ ?_
          rotate_left
          ·intro w'
           go_simp
           with_reducible rfl
          rotate_left
          ·simp only [Act.put, List.setIfInBounds_toArray, List.set_cons_zero, List.set_cons_succ, i64_w, i32_w]
           rfl
          refine take_ (i := 13) (N := some 92) (v := ?_) (a' := ?_) #[true, true, true, true, true, true, true, true, true, true, true, true, true, true, true, true, false, false, false, false, false, false, false, false] rfl rfl (take_ofW HT_.out HW_.out (by kernel_rfl)) (fun _ _ _ h => h) (Or.inl ⟨by rfl, ?_⟩) hHeld ?_ ?_
          rotate_left
          ·rintro w' ⟨s0, s1, s2, s3, s4⟩
           go_simp
           with_reducible rfl
          rotate_left
          ·simp only [Act.put, List.setIfInBounds_toArray, List.set_cons_zero, List.set_cons_succ, i64_w, i32_w]
           rfl
          refine pure_ (i := 16) (N := some 95) (v := ?_) (a' := ?_) #[true, true, true, true, true, true, true, true, true, true, true, true, true, true, true, true, true, false, false, false, false, false, false, false] rfl rfl (any_of HT_.out (by kernel_rfl)) (fun _ _ _ h => h) (Or.inl ⟨by rfl, ?_⟩) ?_ ?_
          rotate_left
          ·intro w'
           go_simp
           with_reducible rfl
          rotate_left
          ·simp only [Act.put, List.setIfInBounds_toArray, List.set_cons_zero, List.set_cons_succ, i64_w, i32_w]
           rfl
          refine take_ (i := 17) (N := some 96) (v := ?_) (a' := ?_) #[true, true, true, true, true, true, true, true, true, true, true, true, true, true, true, true, true, true, false, false, false, false, false, false] rfl rfl (take_ofW HT_.out HW_.out (by kernel_rfl)) (fun _ _ _ h => h) (Or.inl ⟨by rfl, ?_⟩) hHeld ?_ ?_
          rotate_left
          ·rintro w' ⟨s0, s1, s2, s3, s4⟩
           go_simp
           with_reducible rfl
          rotate_left
          ·simp only [Act.put, List.setIfInBounds_toArray, List.set_cons_zero, List.set_cons_succ, i64_w, i32_w]
           rfl
          refine pure_ (i := 18) (N := some 97) (v := ?_) (a' := ?_) #[true, true, true, true, true, true, true, true, true, true, true, true, true, true, true, true, true, true, true, false, false, false, false, false] rfl rfl (any_of HT_.out (by kernel_rfl)) (fun _ _ _ h => h) (Or.inl ⟨by rfl, ?_⟩) ?_ ?_
          rotate_left
          ·intro w'
           go_simp
           with_reducible rfl
          rotate_left
          ·simp only [Act.put, List.setIfInBounds_toArray, List.set_cons_zero, List.set_cons_succ, i64_w, i32_w]
           rfl
          refine pure_ (i := 19) (N := some 98) (v := ?_) (a' := ?_) #[true, true, true, true, true, true, true, true, true, true, true, true, true, true, true, true, true, true, true, true, false, false, false, false] rfl rfl (any_of HT_.out (by kernel_rfl)) (fun _ _ _ h => h) (Or.inl ⟨by rfl, ?_⟩) ?_ ?_
          rotate_left
          ·intro w'
           go_simp
           with_reducible rfl
          rotate_left
          ·simp only [Act.put, List.setIfInBounds_toArray, List.set_cons_zero, List.set_cons_succ, i64_w, i32_w]
           rfl
          refine take_ (i := 20) (N := some 99) (v := ?_) (a' := ?_) #[true, true, true, true, true, true, true, true, true, true, true, true, true, true, true, true, true, true, true, true, true, false, false, false] rfl rfl (take_ofW HT_.out HW_.out (by kernel_rfl)) (fun _ _ _ h => h) (Or.inl ⟨by rfl, ?_⟩) hHeld ?_ ?_
          rotate_left
          ·rintro w' ⟨s0, s1, s2, s3, s4⟩
           go_simp
           with_reducible rfl
          rotate_left
          ·simp only [Act.put, List.setIfInBounds_toArray, List.set_cons_zero, List.set_cons_succ, i64_w, i32_w]
           rfl
          refine pure_ (i := 21) (N := some 100) (v := ?_) (a' := ?_) #[true, true, true, true, true, true, true, true, true, true, true, true, true, true, true, true, true, true, true, true, true, true, false, false] rfl rfl (any_of HT_.out (by kernel_rfl)) (fun _ _ _ h => h) (Or.inl ⟨by rfl, ?_⟩) ?_ ?_
          rotate_left
          ·intro w'
           go_simp
           with_reducible rfl
          rotate_left
          ·simp only [Act.put, List.setIfInBounds_toArray, List.set_cons_zero, List.set_cons_succ, i64_w, i32_w]
           rfl
          refine pure_ (i := 22) (N := some 101) (v := ?_) (a' := ?_) #[true, true, true, true, true, true, true, true, true, true, true, true, true, true, true, true, true, true, true, true, true, true, true, false] rfl rfl (any_of HT_.out (by kernel_rfl)) (fun _ _ _ h => h) (Or.inl ⟨by rfl, ?_⟩) ?_ ?_
          rotate_left
          ·intro w'
           go_simp
           with_reducible rfl
          rotate_left
          ·simp only [Act.put, List.setIfInBounds_toArray, List.set_cons_zero, List.set_cons_succ, i64_w, i32_w]
           rfl
          refine pure_ (i := 23) (N := some 102) (v := ?_) (a' := ?_) #[true, true, true, true, true, true, true, true, true, true, true, true, true, true, true, true, true, true, true, true, true, true, true, true] rfl rfl (any_of HT_.out (by kernel_rfl)) (fun _ _ _ h => h) (Or.inl ⟨by rfl, ?_⟩) ?_ ?_
          rotate_left
          ·intro w'
           go_simp
           with_reducible rfl
          rotate_left
          ·simp only [Act.put, List.setIfInBounds_toArray, List.set_cons_zero, List.set_cons_succ, i64_w, i32_w]
           rfl
          refine done_ (done_of HT_.out (by kernel_rfl)) ?_
          clear qz
          clear hwx_
          go_wp2_with fail
          rotate_left
          all_goals (
           have hb := below_drew (Below.refl wd.heap.size wd)
           have nFR_ := Aside0.mk (FR.out.trans (Frm.of_below hb))
           have nCP_ := Aside0.mk (blk_below CP.out hb)
           have nBV_ := Aside0.mk (Kd.N_below BV.out hb)
           have nPV_ := Aside0.mk (Kd.N_below PV.out hb)
           have nBX_ := Aside0.mk (blk_below BX.out hb)
           have nHBr_ := Aside0.mk (below_step HBr.out hb)
           clear hb FR CP BV PV BX HBr
           have FR := nFR_
           have CP := nCP_
           have BV := nBV_
           have PV := nPV_
           have BX := nBX_
           have HBr := nHBr_
           clear nFR_ nCP_ nBV_ nPV_ nBX_ nHBr_
           refine start_ (n := 15) (S := fun w' => w'.cell? ⟨bx, 0, none⟩ = some (.int .i64 (rd_T34 l i).f0) ∧ w'.cell? ⟨bx, 1, none⟩ = some (.int .i64 (rd_T34 l i).f1)) (ds := [14]) #[false, false, false, false, false, false, false, false, false, false, false, false, false, false, false] (by kernel_rfl) rfl rfl ⟨((blk_cell BX.out 0).trans rfl), ((blk_cell BX.out 1).trans rfl)⟩ (fun hHeld => ?_)
           refine with_tabW X46.tab17 X46.bits17 (fun HT_ HW_ => ?_)
           generalize wd.drew = we at FR CP BV PV BX HBr hHeld ⊢
           refine pure_ (i := 0) (N := some 103) (v := ?_) (a' := ?_) #[true, false, false, false, false, false, false, false, false, false, false, false, false, false, false] rfl rfl (any_of HT_.out (by kernel_rfl)) (fun _ _ _ h => h) (Or.inl ⟨by rfl, ?_⟩) ?_ ?_
           rotate_left
           ·intro w'
            go_simp
            with_reducible rfl
           rotate_left
           ·simp only [Act.put, List.setIfInBounds_toArray, List.set_cons_zero, List.set_cons_succ, i64_w, i32_w]
            rfl
           refine pure_ (i := 1) (N := some 104) (v := ?_) (a' := ?_) #[true, true, false, false, false, false, false, false, false, false, false, false, false, false, false] rfl rfl (any_of HT_.out (by kernel_rfl)) (fun _ _ _ h => h) (Or.inl ⟨by rfl, ?_⟩) ?_ ?_
           rotate_left
           ·intro w'
            go_simp
            with_reducible rfl
           rotate_left
           ·simp only [Act.put, List.setIfInBounds_toArray, List.set_cons_zero, List.set_cons_succ, i64_w, i32_w]
            rfl
           refine pure_ (i := 3) (N := some 106) (v := ?_) (a' := ?_) #[true, true, false, true, false, false, false, false, false, false, false, false, false, false, false] rfl rfl (any_of HT_.out (by kernel_rfl)) (fun _ _ _ h => h) (Or.inl ⟨by rfl, ?_⟩) ?_ ?_
           rotate_left
           ·intro w'
            go_simp
            with_reducible rfl
           rotate_left
           ·simp only [Act.put, List.setIfInBounds_toArray, List.set_cons_zero, List.set_cons_succ, i64_w, i32_w]
            rfl
           refine pure_ (i := 4) (N := some 107) (v := ?_) (a' := ?_) #[true, true, false, true, true, false, false, false, false, false, false, false, false, false, false] rfl rfl (any_of HT_.out (by kernel_rfl)) (fun _ _ _ h => h) (Or.inl ⟨by rfl, ?_⟩) ?_ ?_
           rotate_left
           ·intro w'
            go_simp
            with_reducible rfl
           rotate_left
           ·simp only [Act.put, List.setIfInBounds_toArray, List.set_cons_zero, List.set_cons_succ, i64_w, i32_w]
            rfl
           refine pure_ (i := 6) (N := some 109) (v := ?_) (a' := ?_) #[true, true, false, true, true, false, true, false, false, false, false, false, false, false, false] rfl rfl (any_of HT_.out (by kernel_rfl)) (fun _ _ _ h => h) (Or.inl ⟨by rfl, ?_⟩) ?_ ?_
           rotate_left
           ·intro w'
            go_simp
            with_reducible rfl
           rotate_left
           ·simp only [Act.put, List.setIfInBounds_toArray, List.set_cons_zero, List.set_cons_succ, i64_w, i32_w]
            rfl
           refine pure_ (i := 7) (N := some 110) (v := ?_) (a' := ?_) #[true, true, false, true, true, false, true, true, false, false, false, false, false, false, false] rfl rfl (any_of HT_.out (by kernel_rfl)) (fun _ _ _ h => h) (Or.inl ⟨by rfl, ?_⟩) ?_ ?_
           rotate_left
           ·intro w'
            go_simp
            with_reducible rfl
           rotate_left
           ·simp only [Act.put, List.setIfInBounds_toArray, List.set_cons_zero, List.set_cons_succ, i64_w, i32_w]
            rfl
           refine pure_ (i := 8) (N := some 111) (v := ?_) (a' := ?_) #[true, true, false, true, true, false, true, true, true, false, false, false, false, false, false] rfl rfl (any_of HT_.out (by kernel_rfl)) (fun _ _ _ h => h) (Or.inl ⟨by rfl, ?_⟩) ?_ ?_
           rotate_left
           ·intro w'
            go_simp
            with_reducible rfl
           rotate_left
           ·simp only [Act.put, List.setIfInBounds_toArray, List.set_cons_zero, List.set_cons_succ, i64_w, i32_w]
            rfl
           refine take_ (i := 5) (N := some 108) (v := ?_) (a' := ?_) #[true, true, false, true, true, true, true, true, true, false, false, false, false, false, false] rfl rfl (take_ofW HT_.out HW_.out (by kernel_rfl)) (fun _ _ _ h => h) (Or.inl ⟨by rfl, ?_⟩) hHeld ?_ ?_
           rotate_left
           ·rintro w' ⟨s0, s1⟩
            go_simp
            with_reducible rfl
           rotate_left
           ·simp only [Act.put, List.setIfInBounds_toArray, List.set_cons_zero, List.set_cons_succ, i64_w, i32_w]
            rfl
           refine take_ (i := 9) (N := some 112) (v := ?_) (a' := ?_) #[true, true, false, true, true, true, true, true, true, true, false, false, false, false, false] rfl rfl (take_ofW HT_.out HW_.out (by kernel_rfl)) (fun _ _ _ h => h) (Or.inl ⟨by rfl, ?_⟩) hHeld ?_ ?_
           rotate_left
           ·rintro w' ⟨s0, s1⟩
            go_simp
            with_reducible rfl
           rotate_left
           ·simp only [Act.put, List.setIfInBounds_toArray, List.set_cons_zero, List.set_cons_succ, i64_w, i32_w]
            rfl
           refine pure_ (i := 10) (N := some 113) (v := ?_) (a' := ?_) #[true, true, false, true, true, true, true, true, true, true, true, false, false, false, false] rfl rfl (any_of HT_.out (by kernel_rfl)) (fun _ _ _ h => h) (Or.inl ⟨by rfl, ?_⟩) ?_ ?_
           rotate_left
           ·intro w'
            go_simp
            with_reducible rfl
           rotate_left
           ·simp only [Act.put, List.setIfInBounds_toArray, List.set_cons_zero, List.set_cons_succ, i64_w, i32_w]
            rfl
           refine pure_ (i := 11) (N := some 114) (v := ?_) (a' := ?_) #[true, true, false, true, true, true, true, true, true, true, true, true, false, false, false] rfl rfl (any_of HT_.out (by kernel_rfl)) (fun _ _ _ h => h) (Or.inl ⟨by rfl, ?_⟩) ?_ ?_
           rotate_left
           ·intro w'
            go_simp
            with_reducible rfl
           rotate_left
           ·simp only [Act.put, List.setIfInBounds_toArray, List.set_cons_zero, List.set_cons_succ, i64_w, i32_w]
            rfl
           refine join_ (σ := Value × Nat) 2 #[true, true, true, true, true, true, true, true, true, true, true, true, true, false, false] (fun s => [(105, s.1), (115, .slice (some ⟨s.2, 0, none⟩) 1 1)]) (fun s w' => Below we.heap.size we w' ∧ Kd.N k37 37 w' we.heap.size (fun _ => True) s.1 plan ∧ w'.heap[s.2]? = some (.cells #[.int .i64 ((g : Int) + 1), .int .i64 (rd_T34 l i).f0, .int .i64 (frV l plan (rd_T34 l i) ((g : Int) + 1)), .int .i64 (rto l plan i g)] 37) ∧ some s.2 ≠ s.1.ownBlock) ?_ ?_
           rotate_left
           ·intro hCont
            refine two_ (i := 2) (j := 12) (Ni := some 105) (Nj := some 115) #[true, true, true, true, true, true, true, true, true, true, true, true, false, false, false] #[true, true, false, true, true, true, true, true, true, true, true, true, true, false, false] rfl rfl rfl rfl (two_of HT_.out (by kernel_rfl)) (by decide) (by decide) (fun K hK => ?_) (fun K hK => ?_)
            ·skip
             refine Kd.N_append_rows_step k37 (w0 := we) we.heap.size (by rfl) (.const (.slice none 0 0)) (.tmp 104) 24 37 (.agg #[(.int .i64 0), (.int .i64 0), (.int .i64 0), (.int .i64 0)]) 32 rfl Try.underlying24 info37 rfl (by decide) (by omega) (.slice none 0 0) ([] : List S37) plan _ _ _ (fun _ => True) (fun k => k < we.heap.size) rfl rfl (Kd.N_nil _ _ _ _ _) (Kd.C_F k37_heap (Kd.N_reads' PV.out).2.2) (fun k hk => ⟨trivial, by simp [Value.ownBlock]⟩) (fun _ _ => trivial) (Below.refl _ _) (Nat.le_refl _) (by simp; omega) ?_
             intro v1 w1 ho hb hg_ hat
             have HO1 := Aside0.mk ho
             have HB1 := Aside0.mk hb
             clear ho hb hg_ hat
             refine hK.out _ _ ⟨((blk_cell (blk_below BX.out HB1.out) 0).trans rfl), ((blk_cell (blk_below BX.out HB1.out) 1).trans rfl)⟩ (fun hHeld => ?_)
             clear hK K
             refine norm_ (a' := ?_) ?_ ?_
             rotate_left
             ·show Act.put _ (some 105) _ = _
              simp only [Act.put, List.setIfInBounds_toArray, List.set_cons_zero, List.set_cons_succ, i64_w, i32_w]
              rfl
             refine one_ (i := 12) (N := some 115) #[true, true, true, true, true, true, true, true, true, true, true, true, true, false, false] rfl rfl (one_of HT_.out (by kernel_rfl)) (by decide) (fun K hK => ?_)
             refine value_ (w1 := w1.alloc (.cells #[.int .i64 ((g : Int) + 1), .int .i64 (rd_T34 l i).f0, .int .i64 (frV l plan (rd_T34 l i) ((g : Int) + 1)), .int .i64 (rto l plan i g)] 37)) (v := .slice (some ⟨w1.heap.size, 0, none⟩) 1 1) (by rfl) rfl ?_ ?_
             ·go_simp
              try rfl
             refine hK.out _ _ ⟨((blk_cell (blk_alloc (blk_below BX.out HB1.out) (.cells #[.int .i64 ((g : Int) + 1), .int .i64 (rd_T34 l i).f0, .int .i64 (frV l plan (rd_T34 l i) ((g : Int) + 1)), .int .i64 (rto l plan i g)] 37)) 0).trans rfl), ((blk_cell (blk_alloc (blk_below BX.out HB1.out) (.cells #[.int .i64 ((g : Int) + 1), .int .i64 (rd_T34 l i).f0, .int .i64 (frV l plan (rd_T34 l i) ((g : Int) + 1)), .int .i64 (rto l plan i g)] 37)) 1).trans rfl)⟩ (fun hHeld => ?_)
             clear hK K
             refine norm_ (a' := ?_) ?_ ?_
             rotate_left
             ·show Act.put _ (some 115) _ = _
              simp only [Act.put, List.setIfInBounds_toArray, List.set_cons_zero, List.set_cons_succ, i64_w, i32_w]
              rfl
             exact norm_ (by simp only [putAll, Act.put, List.setIfInBounds_toArray, List.set_cons_zero, List.set_cons_succ]) (hCont (v1, w1.heap.size) _ ⟨below_alloc HB1.out _, Kd.N_alloc HO1.out _, heap_alloc_new w1 _, fun he => absurd (Kd.N_lt HO1.out _ he.symm) (Nat.lt_irrefl _)⟩)
            ·skip
             refine value_ (w1 := we.alloc (.cells #[.int .i64 ((g : Int) + 1), .int .i64 (rd_T34 l i).f0, .int .i64 (frV l plan (rd_T34 l i) ((g : Int) + 1)), .int .i64 (rto l plan i g)] 37)) (v := .slice (some ⟨we.heap.size, 0, none⟩) 1 1) (by rfl) rfl ?_ ?_
             ·go_simp
              try rfl
             refine hK.out _ _ ⟨((blk_cell (blk_alloc BX.out (.cells #[.int .i64 ((g : Int) + 1), .int .i64 (rd_T34 l i).f0, .int .i64 (frV l plan (rd_T34 l i) ((g : Int) + 1)), .int .i64 (rto l plan i g)] 37)) 0).trans rfl), ((blk_cell (blk_alloc BX.out (.cells #[.int .i64 ((g : Int) + 1), .int .i64 (rd_T34 l i).f0, .int .i64 (frV l plan (rd_T34 l i) ((g : Int) + 1)), .int .i64 (rto l plan i g)] 37)) 1).trans rfl)⟩ (fun hHeld => ?_)
             clear hK K
             refine norm_ (a' := ?_) ?_ ?_
             rotate_left
             ·show Act.put _ (some 115) _ = _
              simp only [Act.put, List.setIfInBounds_toArray, List.set_cons_zero, List.set_cons_succ, i64_w, i32_w]
              rfl
             refine one_ (i := 2) (N := some 105) #[true, true, true, true, true, true, true, true, true, true, true, true, true, false, false] rfl rfl (one_of HT_.out (by kernel_rfl)) (by decide) (fun K hK => ?_)
             refine Kd.N_append_rows_step k37 (w0 := (we.alloc (.cells #[.int .i64 ((g : Int) + 1), .int .i64 (rd_T34 l i).f0, .int .i64 (frV l plan (rd_T34 l i) ((g : Int) + 1)), .int .i64 (rto l plan i g)] 37))) (we.alloc (.cells #[.int .i64 ((g : Int) + 1), .int .i64 (rd_T34 l i).f0, .int .i64 (frV l plan (rd_T34 l i) ((g : Int) + 1)), .int .i64 (rto l plan i g)] 37)).heap.size (by rfl) (.const (.slice none 0 0)) (.tmp 104) 24 37 (.agg #[(.int .i64 0), (.int .i64 0), (.int .i64 0), (.int .i64 0)]) 32 rfl Try.underlying24 info37 rfl (by decide) (by omega) (.slice none 0 0) ([] : List S37) plan _ _ _ (fun _ => True) (fun k => k < (we.alloc (.cells #[.int .i64 ((g : Int) + 1), .int .i64 (rd_T34 l i).f0, .int .i64 (frV l plan (rd_T34 l i) ((g : Int) + 1)), .int .i64 (rto l plan i g)] 37)).heap.size) rfl rfl (Kd.N_nil _ _ _ _ _) (Kd.C_F k37_heap (Kd.N_reads' (Kd.N_alloc PV.out (.cells #[.int .i64 ((g : Int) + 1), .int .i64 (rd_T34 l i).f0, .int .i64 (frV l plan (rd_T34 l i) ((g : Int) + 1)), .int .i64 (rto l plan i g)] 37))).2.2) (fun k hk => ⟨trivial, by simp [Value.ownBlock]⟩) (fun _ _ => trivial) (Below.refl _ _) (Nat.le_refl _) (by simp; omega) ?_
             intro v1 w1 ho hb hg_ hat
             have HO1 := Aside0.mk ho
             have HB1 := Aside0.mk hb
             clear ho hb hg_ hat
             refine hK.out _ _ ⟨((blk_cell (blk_below (blk_alloc BX.out (.cells #[.int .i64 ((g : Int) + 1), .int .i64 (rd_T34 l i).f0, .int .i64 (frV l plan (rd_T34 l i) ((g : Int) + 1)), .int .i64 (rto l plan i g)] 37)) HB1.out) 0).trans rfl), ((blk_cell (blk_below (blk_alloc BX.out (.cells #[.int .i64 ((g : Int) + 1), .int .i64 (rd_T34 l i).f0, .int .i64 (frV l plan (rd_T34 l i) ((g : Int) + 1)), .int .i64 (rto l plan i g)] 37)) HB1.out) 1).trans rfl)⟩ (fun hHeld => ?_)
             clear hK K
             refine norm_ (a' := ?_) ?_ ?_
             rotate_left
             ·show Act.put _ (some 105) _ = _
              simp only [Act.put, List.setIfInBounds_toArray, List.set_cons_zero, List.set_cons_succ, i64_w, i32_w]
              rfl
             exact norm_ (by simp only [putAll, Act.put, List.setIfInBounds_toArray, List.set_cons_zero, List.set_cons_succ]) (hCont (v1, we.heap.size) _ ⟨below_step (below_alloc (Below.refl we.heap.size we) _) HB1.out, Kd.N_lower HO1.out (by simp), blk_below (heap_alloc_new we _) HB1.out, fun he => by have h_ := Kd.N_base HO1.out _ he.symm; simp at h_; omega⟩)
           rintro ⟨v1, gl⟩ wm ⟨hb, ho, hlit, hne⟩
           have HNV := Aside0.mk ho
           have HLIT := Aside0.mk (show wm.heap[gl]? = some (.cells (flat37 [radd l plan i g]).toArray 37 (0, 0)) from hlit)
           have HNE := Aside0.mk hne
           have HBM := Aside0.mk hb
           have HSZ := Aside0.mk (show P < we.heap.size from blk_lt CP.out)
           have HS0 := Aside0.mk HBr.out.size
           clear ho hlit hne hb
           have hHeld : wm.cell? ⟨bx, 0, none⟩ = some (.int .i64 (rd_T34 l i).f0) ∧ wm.cell? ⟨bx, 1, none⟩ = some (.int .i64 (rd_T34 l i).f1) := ⟨((blk_cell (blk_below BX.out HBM.out) 0).trans rfl), ((blk_cell (blk_below BX.out HBM.out) 1).trans rfl)⟩
           obtain ⟨A1, c1, rfl⟩ := Kd.N_slice HNV.out
           refine norm_ (a' := ?_) ?_ ?_
           rotate_left
           ·simp only [putAll, Act.put, List.setIfInBounds_toArray, List.set_cons_zero, List.set_cons_succ]
            rfl
           refine one_ (i := 13) (N := some 116) #[true, true, true, true, true, true, true, true, true, true, true, true, true, true, false] rfl rfl (one_of HT_.out (by kernel_rfl)) (by decide) (fun K hK => ?_)
           refine Kd.N_append_rows_step k37 (w0 := we) we.heap.size (by rfl) (.tmp 105) (.tmp 115) 24 37 (.agg #[(.int .i64 0), (.int .i64 0), (.int .i64 0), (.int .i64 0)]) 32 rfl Try.underlying24 info37 rfl (by decide) (by omega) (.slice A1 plan.length c1) plan [radd l plan i g] _ _ _ (fun _ => True) (fun k => k = gl) rfl rfl HNV.out (F_flat [radd l plan i g] HLIT.out (by simp)) (fun k hk => ⟨trivial, by rw [show k = gl from hk]; exact HNE.out⟩) (fun _ _ => trivial) HBM.out HBM.out.size (by omega) ?_
           intro v2 w2 ho hb hg_ hat
           have HNV2 := Aside0.mk ho
           clear ho hg_ hat
           have nFR_ := Aside0.mk (FR.out.trans (Frm.of_below hb))
           have nCP_ := Aside0.mk (blk_below CP.out hb)
           have nBV_ := Aside0.mk (Kd.N_below BV.out hb)
           have nPV_ := Aside0.mk (Kd.N_below PV.out hb)
           have nBX_ := Aside0.mk (blk_below BX.out hb)
           have nHBr_ := Aside0.mk (below_step HBr.out hb)
           clear hb FR CP BV PV BX HBr
           have FR := nFR_
           have CP := nCP_
           have BV := nBV_
           have PV := nPV_
           have BX := nBX_
           have HBr := nHBr_
           clear nFR_ nCP_ nBV_ nPV_ nBX_ nHBr_
           refine hK.out _ _ ⟨((blk_cell BX.out 0).trans rfl), ((blk_cell BX.out 1).trans rfl)⟩ (fun hHeld => ?_)
           clear hK K
           refine norm_ (a' := ?_) ?_ ?_
           rotate_left
           ·show Act.put _ (some 116) _ = _
            simp only [Act.put, List.setIfInBounds_toArray, List.set_cons_zero, List.set_cons_succ, i64_w, i32_w]
            rfl
           refine last_ (i := 14) (N := some 117) #[true, true, true, true, true, true, true, true, true, true, true, true, true, true, true] rfl rfl (one_of HT_.out (by kernel_rfl)) (by decide) (fun K hK => ?_)
           refine goes_ Try.func46 (by kernel_rfl) rfl #[.pointer (some ⟨P, 0, none⟩), v2] (by rfl) rfl rfl (by simp only [List.map_toArray, List.map_cons, List.map_nil]; rfl) ?_
           with_reducible refine (HIH.out (plan ++ [radd l plan i g]) v2 bg.2 bg.1 vg w2 (by rw [List.length_append, List.length_singleton]; have := HPN.out; omega) (in_snoc HIN.out (radd_in hlt)) HBr.out CP.out BV.out (N37_mono (ok' := fun k => k ≠ P) (Kd.N_lower HNV2.out HS0.out) (fun k hk => by have h1_ := Kd.N_base HNV2.out k hk; have h2_ := HSZ.out; omega))).mono ?_
           rintro e_ wt ⟨rfl, hfr, vt, hcp, hbv⟩
           refine ⟨_, rfl, ?_⟩
           have nFR_ := Aside0.mk (FR.out.trans hfr)
           have nCP_ := Aside0.mk hcp
           have nBV_ := Aside0.mk hbv
           have nBX_ := Aside0.mk (hfr.at_ BX.out (fun h => nx (show bx = P from h).symm))
           clear FR CP BV BX hfr hcp hbv PV HBr
           have FR := nFR_
           have CP := nCP_
           have BV := nBV_
           have BX := nBX_
           clear nFR_ nCP_ nBV_ nBX_
           refine hK.out _ _ ?_
           clear hK K
           refine norm_ (a' := ?_) ?_ ?_
           rotate_left
           ·show Act.put _ (some 117) _ = _
            simp only [Act.put, List.setIfInBounds_toArray, List.set_cons_zero, List.set_cons_succ, i64_w, i32_w]
            rfl
           refine done_ (done_of HT_.out (by kernel_rfl)) ?_
           try go_wp2
           first | (exact ⟨⟨g + 1, hgt, by first | rfl | (simp; done) | (congr 1; omega), vt, FR.out, by rw [HE.out]; exact CP.out, by rw [HE.out]; exact BV.out, BX.out⟩, by simp [intOf]; omega⟩) | (exact ⟨⟨.int .i64 ((g : Int) + 1 + 1), ⟨g + 1, hgt, by first | rfl | (simp; done), FR.out, vt, by rw [HE.out]; exact CP.out, by rw [HE.out]; exact BV.out, BX.out⟩, rfl, HWX.out⟩, by simp [intOf]; omega⟩)
          )
         ·have hwg : rdOf false win g = false := by cases h2 : rdOf false win g <;> simp_all
          have hwx : (rd_T34 l i).f2 = true := by cases h2 : (rd_T34 l i).f2 <;> simp_all
          clear hok
          have HWX := Aside0.mk hwx
          have HE := Aside0.mk (show upTo (ngOf l win (nxt l win n) plan i) (g + 1) bi = bg from by rw [upTo, HBG.out, ngOf, if_neg (fun h => by rw [hwg, hwx] at h; exact absurd h.2 (by decide))])
          clear hto
          clear hwx
          go_wp2_with fail
          have qz : wrap64 (g : Int) = (g : Int) := by rw [wrap_id (by omega)]
          have hwx_ := HWX.out
          have hb := below_drew (Below.refl wy.heap.size wy)
          have nFR_ := Aside0.mk (FR.out.trans (Frm.of_below hb))
          have nCP_ := Aside0.mk (blk_below CP.out hb)
          have nBV_ := Aside0.mk (Kd.N_below BV.out hb)
          have nPV_ := Aside0.mk (Kd.N_below PV.out hb)
          have nBX_ := Aside0.mk (blk_below BX.out hb)
          have nHBr_ := Aside0.mk (below_step HBr.out hb)
          clear hb FR CP BV PV BX HBr
          have FR := nFR_
          have CP := nCP_
          have BV := nBV_
          have PV := nPV_
          have BX := nBX_
          have HBr := nHBr_
          clear nFR_ nCP_ nBV_ nPV_ nBX_ nHBr_
          refine start_ (n := 24) (S := fun w' => w'.cell? ⟨P, 2, none⟩ = some (.int .i64 bg.2) ∧ w'.cell? ⟨P, 1, none⟩ = some (.slice (some aw) win.length cw) ∧ w'.cell? (aw.add g) = some (.bool (rdOf false win g)) ∧ w'.cell? ⟨bx, 1, none⟩ = some (.int .i64 (rd_T34 l i).f1) ∧ w'.cell? ⟨bx, 2, none⟩ = some (.bool (rd_T34 l i).f2)) (ds := []) #[false, false, false, false, false, false, false, false, false, false, false, false, false, false, false, false, false, false, false, false, false, false, false, false] (by kernel_rfl) rfl rfl ⟨((blk_cell CP.out 2).trans rfl), ((blk_cell CP.out 1).trans rfl), ((HBr.out.cell (World.block_lt_of_cell? w0 _ XW.out)).trans XW.out), ((blk_cell BX.out 1).trans rfl), ((blk_cell BX.out 2).trans rfl)⟩ (fun hHeld => ?_)
          refine with_tabW X46.tab16 X46.bits16 (fun HT_ HW_ => ?_)
          generalize wy.drew = wd at FR CP BV PV BX HBr hHeld ⊢
          refine pure_ (i := 0) (N := some 79) (v := ?_) (a' := ?_) #[true, false, false, false, false, false, false, false, false, false, false, false, false, false, false, false, false, false, false, false, false, false, false, false] rfl rfl (any_of HT_.out (by kernel_rfl)) (fun _ _ _ h => h) (Or.inl ⟨by rfl, ?_⟩) ?_ ?_
          rotate_left
          ·intro w'
           go_simp
           with_reducible rfl
          rotate_left
          ·simp only [Act.put, List.setIfInBounds_toArray, List.set_cons_zero, List.set_cons_succ, i64_w, i32_w]
           rfl
          refine pure_ (i := 1) (N := some 80) (v := ?_) (a' := ?_) #[true, true, false, false, false, false, false, false, false, false, false, false, false, false, false, false, false, false, false, false, false, false, false, false] rfl rfl (any_of HT_.out (by kernel_rfl)) (fun _ _ _ h => h) (Or.inl ⟨by rfl, ?_⟩) ?_ ?_
          rotate_left
          ·intro w'
           go_simp
           with_reducible rfl
          rotate_left
          ·simp only [Act.put, List.setIfInBounds_toArray, List.set_cons_zero, List.set_cons_succ, i64_w, i32_w]
           rfl
          refine pure_ (i := 4) (N := some 83) (v := ?_) (a' := ?_) #[true, true, false, false, true, false, false, false, false, false, false, false, false, false, false, false, false, false, false, false, false, false, false, false] rfl rfl (any_of HT_.out (by kernel_rfl)) (fun _ _ _ h => h) (Or.inl ⟨by rfl, ?_⟩) ?_ ?_
          rotate_left
          ·intro w'
           go_simp
           with_reducible rfl
          rotate_left
          ·simp only [Act.put, List.setIfInBounds_toArray, List.set_cons_zero, List.set_cons_succ, i64_w, i32_w]
           rfl
          refine pure_ (i := 5) (N := some 84) (v := ?_) (a' := ?_) #[true, true, false, false, true, true, false, false, false, false, false, false, false, false, false, false, false, false, false, false, false, false, false, false] rfl rfl (any_of HT_.out (by kernel_rfl)) (fun _ _ _ h => h) (Or.inl ⟨by rfl, ?_⟩) ?_ ?_
          rotate_left
          ·intro w'
           go_simp
           with_reducible rfl
          rotate_left
          ·simp only [Act.put, List.setIfInBounds_toArray, List.set_cons_zero, List.set_cons_succ, i64_w, i32_w]
           rfl
          refine pure_ (i := 6) (N := some 85) (v := ?_) (a' := ?_) #[true, true, false, false, true, true, true, false, false, false, false, false, false, false, false, false, false, false, false, false, false, false, false, false] rfl rfl (any_of HT_.out (by kernel_rfl)) (fun _ _ _ h => h) (Or.inl ⟨by rfl, ?_⟩) ?_ ?_
          rotate_left
          ·intro w'
           go_simp
           with_reducible rfl
          rotate_left
          ·simp only [Act.put, List.setIfInBounds_toArray, List.set_cons_zero, List.set_cons_succ, i64_w, i32_w]
           rfl
          refine take_ (i := 2) (N := some 81) (v := ?_) (a' := ?_) #[true, true, true, false, true, true, true, false, false, false, false, false, false, false, false, false, false, false, false, false, false, false, false, false] rfl rfl (take_ofW HT_.out HW_.out (by kernel_rfl)) (fun _ _ _ h => h) (Or.inl ⟨by rfl, ?_⟩) hHeld ?_ ?_
          rotate_left
          ·rintro w' ⟨s0, s1, s2, s3, s4⟩
           go_simp
           with_reducible rfl
          rotate_left
          ·simp only [Act.put, List.setIfInBounds_toArray, List.set_cons_zero, List.set_cons_succ, i64_w, i32_w]
           rfl
          refine pure_ (i := 3) (N := some 82) (v := ?_) (a' := ?_) #[true, true, true, true, true, true, true, false, false, false, false, false, false, false, false, false, false, false, false, false, false, false, false, false] rfl rfl (any_of HT_.out (by kernel_rfl)) (fun _ _ _ h => h) (Or.inl ⟨by rfl, ?_⟩) ?_ ?_
          rotate_left
          ·intro w'
           go_simp
           with_reducible rfl
          rotate_left
          ·simp only [Act.put, List.setIfInBounds_toArray, List.set_cons_zero, List.set_cons_succ, i64_w, i32_w]
           rfl
          refine take_ (i := 7) (N := some 86) (v := ?_) (a' := ?_) #[true, true, true, true, true, true, true, true, false, false, false, false, false, false, false, false, false, false, false, false, false, false, false, false] rfl rfl (take_ofW HT_.out HW_.out (by kernel_rfl)) (fun _ _ _ h => h) (Or.inl ⟨by rfl, ?_⟩) hHeld ?_ ?_
          rotate_left
          ·rintro w' ⟨s0, s1, s2, s3, s4⟩
           go_simp
           with_reducible rfl
          rotate_left
          ·simp only [Act.put, List.setIfInBounds_toArray, List.set_cons_zero, List.set_cons_succ, i64_w, i32_w]
           rfl
          refine pure_ (i := 8) (N := some 87) (v := ?_) (a' := ?_) #[true, true, true, true, true, true, true, true, true, false, false, false, false, false, false, false, false, false, false, false, false, false, false, false] rfl rfl (any_of HT_.out (by kernel_rfl)) (fun _ _ _ h => h) (Or.inl ⟨by rfl, ?_⟩) ?_ ?_
          rotate_left
          ·intro w'
           go_simp
           with_reducible rfl
          rotate_left
          ·simp only [Act.put, List.setIfInBounds_toArray, List.set_cons_zero, List.set_cons_succ, i64_w, i32_w]
           rfl
          refine pure_ (i := 9) (N := some 88) (v := ?_) (a' := ?_) #[true, true, true, true, true, true, true, true, true, true, false, false, false, false, false, false, false, false, false, false, false, false, false, false] rfl rfl (any_of HT_.out (by kernel_rfl)) (fun _ _ _ h => h) (Or.inl ⟨by rfl, ?_⟩) ?_ ?_
          rotate_left
          ·intro w'
           go_simp
           with_reducible rfl
          rotate_left
          ·simp only [Act.put, List.setIfInBounds_toArray, List.set_cons_zero, List.set_cons_succ, i64_w, i32_w]
           rfl
          refine pure_ (i := 10) (N := some 89) (v := ?_) (a' := ?_) #[true, true, true, true, true, true, true, true, true, true, true, false, false, false, false, false, false, false, false, false, false, false, false, false] rfl rfl (any_of HT_.out (by kernel_rfl)) (fun _ _ _ h => h) (Or.inl ⟨by rfl, ?_⟩) ?_ ?_
          rotate_left
          ·intro w'
           go_simp
           with_reducible rfl
          rotate_left
          ·simp only [Act.put, List.setIfInBounds_toArray, List.set_cons_zero, List.set_cons_succ, i64_w, i32_w]
           rfl
          refine pure_ (i := 11) (N := some 90) (v := ?_) (a' := ?_) #[true, true, true, true, true, true, true, true, true, true, true, true, false, false, false, false, false, false, false, false, false, false, false, false] rfl rfl (any_of HT_.out (by kernel_rfl)) (fun _ _ _ h => h) (Or.inl ⟨by rfl, ?_⟩) ?_ ?_
          rotate_left
          ·intro w'
           go_simp
           with_reducible rfl
          rotate_left
          ·simp only [Act.put, List.setIfInBounds_toArray, List.set_cons_zero, List.set_cons_succ, i64_w, i32_w]
           rfl
          refine pure_ (i := 12) (N := some 91) (v := ?_) (a' := ?_) #[true, true, true, true, true, true, true, true, true, true, true, true, true, false, false, false, false, false, false, false, false, false, false, false] rfl rfl (any_of HT_.out (by kernel_rfl)) (fun _ _ _ h => h) (Or.inl ⟨by rfl, ?_⟩) ?_ ?_
          rotate_left
          ·intro w'
           go_simp
           with_reducible rfl
          rotate_left
          ·simp only [Act.put, List.setIfInBounds_toArray, List.set_cons_zero, List.set_cons_succ, i64_w, i32_w]
           rfl
          refine pure_ (i := 14) (N := some 93) (v := ?_) (a' := ?_) #[true, true, true, true, true, true, true, true, true, true, true, true, true, false, true, false, false, false, false, false, false, false, false, false] rfl rfl (any_of HT_.out (by kernel_rfl)) (fun _ _ _ h => h) (Or.inl ⟨by rfl, ?_⟩) ?_ ?_
          rotate_left
          ·intro w'
           go_simp
           with_reducible rfl
          rotate_left
          ·simp only [Act.put, List.setIfInBounds_toArray, List.set_cons_zero, List.set_cons_succ, i64_w, i32_w]
           rfl
          refine pure_ (i := 15) (N := some 94) (v := ?_) (a' := ?_) #[true, true, true, true, true, true, true, true, true, true, true, true, true, false, true, true, false, false, false, false, false, false, false, false] rfl rfl (any_of HT_.out (by kernel_rfl)) (fun _ _ _ h => h) (Or.inl ⟨by rfl, ?_⟩) ?_ ?_
          rotate_left
          ·intro w'
           go_simp
           with_reducible rfl
          rotate_left
          ·simp only [Act.put, List.setIfInBounds_toArray, List.set_cons_zero, List.set_cons_succ, i64_w, i32_w]
           rfl
          refine take_ (i := 13) (N := some 92) (v := ?_) (a' := ?_) #[true, true, true, true, true, true, true, true, true, true, true, true, true, true, true, true, false, false, false, false, false, false, false, false] rfl rfl (take_ofW HT_.out HW_.out (by kernel_rfl)) (fun _ _ _ h => h) (Or.inl ⟨by rfl, ?_⟩) hHeld ?_ ?_
          rotate_left
          ·rintro w' ⟨s0, s1, s2, s3, s4⟩
           go_simp
           with_reducible rfl
          rotate_left
          ·simp only [Act.put, List.setIfInBounds_toArray, List.set_cons_zero, List.set_cons_succ, i64_w, i32_w]
           rfl
          refine pure_ (i := 16) (N := some 95) (v := ?_) (a' := ?_) #[true, true, true, true, true, true, true, true, true, true, true, true, true, true, true, true, true, false, false, false, false, false, false, false] rfl rfl (any_of HT_.out (by kernel_rfl)) (fun _ _ _ h => h) (Or.inl ⟨by rfl, ?_⟩) ?_ ?_
          rotate_left
          ·intro w'
           go_simp
           with_reducible rfl
          rotate_left
          ·simp only [Act.put, List.setIfInBounds_toArray, List.set_cons_zero, List.set_cons_succ, i64_w, i32_w]
           rfl
          refine take_ (i := 17) (N := some 96) (v := ?_) (a' := ?_) #[true, true, true, true, true, true, true, true, true, true, true, true, true, true, true, true, true, true, false, false, false, false, false, false] rfl rfl (take_ofW HT_.out HW_.out (by kernel_rfl)) (fun _ _ _ h => h) (Or.inl ⟨by rfl, ?_⟩) hHeld ?_ ?_
          rotate_left
          ·rintro w' ⟨s0, s1, s2, s3, s4⟩
           go_simp
           with_reducible rfl
          rotate_left
          ·simp only [Act.put, List.setIfInBounds_toArray, List.set_cons_zero, List.set_cons_succ, i64_w, i32_w]
           rfl
          refine pure_ (i := 18) (N := some 97) (v := ?_) (a' := ?_) #[true, true, true, true, true, true, true, true, true, true, true, true, true, true, true, true, true, true, true, false, false, false, false, false] rfl rfl (any_of HT_.out (by kernel_rfl)) (fun _ _ _ h => h) (Or.inl ⟨by rfl, ?_⟩) ?_ ?_
          rotate_left
          ·intro w'
           go_simp
           with_reducible rfl
          rotate_left
          ·simp only [Act.put, List.setIfInBounds_toArray, List.set_cons_zero, List.set_cons_succ, i64_w, i32_w]
           rfl
          refine pure_ (i := 19) (N := some 98) (v := ?_) (a' := ?_) #[true, true, true, true, true, true, true, true, true, true, true, true, true, true, true, true, true, true, true, true, false, false, false, false] rfl rfl (any_of HT_.out (by kernel_rfl)) (fun _ _ _ h => h) (Or.inl ⟨by rfl, ?_⟩) ?_ ?_
          rotate_left
          ·intro w'
           go_simp
           with_reducible rfl
          rotate_left
          ·simp only [Act.put, List.setIfInBounds_toArray, List.set_cons_zero, List.set_cons_succ, i64_w, i32_w]
           rfl
          refine take_ (i := 20) (N := some 99) (v := ?_) (a' := ?_) #[true, true, true, true, true, true, true, true, true, true, true, true, true, true, true, true, true, true, true, true, true, false, false, false] rfl rfl (take_ofW HT_.out HW_.out (by kernel_rfl)) (fun _ _ _ h => h) (Or.inl ⟨by rfl, ?_⟩) hHeld ?_ ?_
          rotate_left
          ·rintro w' ⟨s0, s1, s2, s3, s4⟩
           go_simp
           with_reducible rfl
          rotate_left
          ·simp only [Act.put, List.setIfInBounds_toArray, List.set_cons_zero, List.set_cons_succ, i64_w, i32_w]
           rfl
          refine pure_ (i := 21) (N := some 100) (v := ?_) (a' := ?_) #[true, true, true, true, true, true, true, true, true, true, true, true, true, true, true, true, true, true, true, true, true, true, false, false] rfl rfl (any_of HT_.out (by kernel_rfl)) (fun _ _ _ h => h) (Or.inl ⟨by rfl, ?_⟩) ?_ ?_
          rotate_left
          ·intro w'
           go_simp
           with_reducible rfl
          rotate_left
          ·simp only [Act.put, List.setIfInBounds_toArray, List.set_cons_zero, List.set_cons_succ, i64_w, i32_w]
           rfl
          refine pure_ (i := 22) (N := some 101) (v := ?_) (a' := ?_) #[true, true, true, true, true, true, true, true, true, true, true, true, true, true, true, true, true, true, true, true, true, true, true, false] rfl rfl (any_of HT_.out (by kernel_rfl)) (fun _ _ _ h => h) (Or.inl ⟨by rfl, ?_⟩) ?_ ?_
          rotate_left
          ·intro w'
           go_simp
           with_reducible rfl
          rotate_left
          ·simp only [Act.put, List.setIfInBounds_toArray, List.set_cons_zero, List.set_cons_succ, i64_w, i32_w]
           rfl
          refine pure_ (i := 23) (N := some 102) (v := ?_) (a' := ?_) #[true, true, true, true, true, true, true, true, true, true, true, true, true, true, true, true, true, true, true, true, true, true, true, true] rfl rfl (any_of HT_.out (by kernel_rfl)) (fun _ _ _ h => h) (Or.inl ⟨by rfl, ?_⟩) ?_ ?_
          rotate_left
          ·intro w'
           go_simp
           with_reducible rfl
          rotate_left
          ·simp only [Act.put, List.setIfInBounds_toArray, List.set_cons_zero, List.set_cons_succ, i64_w, i32_w]
           rfl
          refine done_ (done_of HT_.out (by kernel_rfl)) ?_
          clear qz
          clear hwx_
          go_wp2
          exact ⟨⟨g + 1, hgt, by first | rfl | (simp; done) | (congr 1; omega), vg, FR.out, by rw [HE.out]; exact CP.out, by rw [HE.out]; exact BV.out, BX.out⟩, by simp [intOf]; omega⟩
        ·have q5 : decide (wrap64 (frV l plan (rd_T34 l i) ((g : Int) + 1) + (rd_T34 l i).f1) < bg.2) = false := decide_eq_false hto
         have HE := Aside0.mk (show upTo (ngOf l win (nxt l win n) plan i) (g + 1) bi = bg from by rw [upTo, HBG.out, ngOf, if_neg (fun h => hto h.1)])
         clear hto
         go_wp2_with fail
         have qz : wrap64 (g : Int) = (g : Int) := by rw [wrap_id (by omega)]
         have hb := below_drew (Below.refl wy.heap.size wy)
         have nFR_ := Aside0.mk (FR.out.trans (Frm.of_below hb))
         have nCP_ := Aside0.mk (blk_below CP.out hb)
         have nBV_ := Aside0.mk (Kd.N_below BV.out hb)
         have nPV_ := Aside0.mk (Kd.N_below PV.out hb)
         have nBX_ := Aside0.mk (blk_below BX.out hb)
         have nHBr_ := Aside0.mk (below_step HBr.out hb)
         clear hb FR CP BV PV BX HBr
         have FR := nFR_
         have CP := nCP_
         have BV := nBV_
         have PV := nPV_
         have BX := nBX_
         have HBr := nHBr_
         clear nFR_ nCP_ nBV_ nPV_ nBX_ nHBr_
         refine start_ (n := 24) (S := fun w' => w'.cell? ⟨P, 2, none⟩ = some (.int .i64 bg.2) ∧ w'.cell? ⟨P, 1, none⟩ = some (.slice (some aw) win.length cw) ∧ w'.cell? (aw.add g) = some (.bool (rdOf false win g)) ∧ w'.cell? ⟨bx, 1, none⟩ = some (.int .i64 (rd_T34 l i).f1) ∧ w'.cell? ⟨bx, 2, none⟩ = some (.bool (rd_T34 l i).f2)) (ds := []) #[false, false, false, false, false, false, false, false, false, false, false, false, false, false, false, false, false, false, false, false, false, false, false, false] (by kernel_rfl) rfl rfl ⟨((blk_cell CP.out 2).trans rfl), ((blk_cell CP.out 1).trans rfl), ((HBr.out.cell (World.block_lt_of_cell? w0 _ XW.out)).trans XW.out), ((blk_cell BX.out 1).trans rfl), ((blk_cell BX.out 2).trans rfl)⟩ (fun hHeld => ?_)
         refine with_tabW X46.tab16 X46.bits16 (fun HT_ HW_ => ?_)
         generalize wy.drew = wd at FR CP BV PV BX HBr hHeld ⊢
         refine pure_ (i := 0) (N := some 79) (v := ?_) (a' := ?_) #[true, false, false, false, false, false, false, false, false, false, false, false, false, false, false, false, false, false, false, false, false, false, false, false] rfl rfl (any_of HT_.out (by kernel_rfl)) (fun _ _ _ h => h) (Or.inl ⟨by rfl, ?_⟩) ?_ ?_
         rotate_left
         ·intro w'
          go_simp
          with_reducible rfl
         rotate_left
         ·simp only [Act.put, List.setIfInBounds_toArray, List.set_cons_zero, List.set_cons_succ, i64_w, i32_w]
          rfl
         refine pure_ (i := 1) (N := some 80) (v := ?_) (a' := ?_) #[true, true, false, false, false, false, false, false, false, false, false, false, false, false, false, false, false, false, false, false, false, false, false, false] rfl rfl (any_of HT_.out (by kernel_rfl)) (fun _ _ _ h => h) (Or.inl ⟨by rfl, ?_⟩) ?_ ?_
         rotate_left
         ·intro w'
          go_simp
          with_reducible rfl
         rotate_left
         ·simp only [Act.put, List.setIfInBounds_toArray, List.set_cons_zero, List.set_cons_succ, i64_w, i32_w]
          rfl
         refine pure_ (i := 4) (N := some 83) (v := ?_) (a' := ?_) #[true, true, false, false, true, false, false, false, false, false, false, false, false, false, false, false, false, false, false, false, false, false, false, false] rfl rfl (any_of HT_.out (by kernel_rfl)) (fun _ _ _ h => h) (Or.inl ⟨by rfl, ?_⟩) ?_ ?_
         rotate_left
         ·intro w'
          go_simp
          with_reducible rfl
         rotate_left
         ·simp only [Act.put, List.setIfInBounds_toArray, List.set_cons_zero, List.set_cons_succ, i64_w, i32_w]
          rfl
         refine pure_ (i := 5) (N := some 84) (v := ?_) (a' := ?_) #[true, true, false, false, true, true, false, false, false, false, false, false, false, false, false, false, false, false, false, false, false, false, false, false] rfl rfl (any_of HT_.out (by kernel_rfl)) (fun _ _ _ h => h) (Or.inl ⟨by rfl, ?_⟩) ?_ ?_
         rotate_left
         ·intro w'
          go_simp
          with_reducible rfl
         rotate_left
         ·simp only [Act.put, List.setIfInBounds_toArray, List.set_cons_zero, List.set_cons_succ, i64_w, i32_w]
          rfl
         refine pure_ (i := 6) (N := some 85) (v := ?_) (a' := ?_) #[true, true, false, false, true, true, true, false, false, false, false, false, false, false, false, false, false, false, false, false, false, false, false, false] rfl rfl (any_of HT_.out (by kernel_rfl)) (fun _ _ _ h => h) (Or.inl ⟨by rfl, ?_⟩) ?_ ?_
         rotate_left
         ·intro w'
          go_simp
          with_reducible rfl
         rotate_left
         ·simp only [Act.put, List.setIfInBounds_toArray, List.set_cons_zero, List.set_cons_succ, i64_w, i32_w]
          rfl
         refine take_ (i := 2) (N := some 81) (v := ?_) (a' := ?_) #[true, true, true, false, true, true, true, false, false, false, false, false, false, false, false, false, false, false, false, false, false, false, false, false] rfl rfl (take_ofW HT_.out HW_.out (by kernel_rfl)) (fun _ _ _ h => h) (Or.inl ⟨by rfl, ?_⟩) hHeld ?_ ?_
         rotate_left
         ·rintro w' ⟨s0, s1, s2, s3, s4⟩
          go_simp
          with_reducible rfl
         rotate_left
         ·simp only [Act.put, List.setIfInBounds_toArray, List.set_cons_zero, List.set_cons_succ, i64_w, i32_w]
          rfl
         refine pure_ (i := 3) (N := some 82) (v := ?_) (a' := ?_) #[true, true, true, true, true, true, true, false, false, false, false, false, false, false, false, false, false, false, false, false, false, false, false, false] rfl rfl (any_of HT_.out (by kernel_rfl)) (fun _ _ _ h => h) (Or.inl ⟨by rfl, ?_⟩) ?_ ?_
         rotate_left
         ·intro w'
          go_simp
          with_reducible rfl
         rotate_left
         ·simp only [Act.put, List.setIfInBounds_toArray, List.set_cons_zero, List.set_cons_succ, i64_w, i32_w]
          rfl
         refine take_ (i := 7) (N := some 86) (v := ?_) (a' := ?_) #[true, true, true, true, true, true, true, true, false, false, false, false, false, false, false, false, false, false, false, false, false, false, false, false] rfl rfl (take_ofW HT_.out HW_.out (by kernel_rfl)) (fun _ _ _ h => h) (Or.inl ⟨by rfl, ?_⟩) hHeld ?_ ?_
         rotate_left
         ·rintro w' ⟨s0, s1, s2, s3, s4⟩
          go_simp
          with_reducible rfl
         rotate_left
         ·simp only [Act.put, List.setIfInBounds_toArray, List.set_cons_zero, List.set_cons_succ, i64_w, i32_w]
          rfl
         refine pure_ (i := 8) (N := some 87) (v := ?_) (a' := ?_) #[true, true, true, true, true, true, true, true, true, false, false, false, false, false, false, false, false, false, false, false, false, false, false, false] rfl rfl (any_of HT_.out (by kernel_rfl)) (fun _ _ _ h => h) (Or.inl ⟨by rfl, ?_⟩) ?_ ?_
         rotate_left
         ·intro w'
          go_simp
          with_reducible rfl
         rotate_left
         ·simp only [Act.put, List.setIfInBounds_toArray, List.set_cons_zero, List.set_cons_succ, i64_w, i32_w]
          rfl
         refine pure_ (i := 9) (N := some 88) (v := ?_) (a' := ?_) #[true, true, true, true, true, true, true, true, true, true, false, false, false, false, false, false, false, false, false, false, false, false, false, false] rfl rfl (any_of HT_.out (by kernel_rfl)) (fun _ _ _ h => h) (Or.inl ⟨by rfl, ?_⟩) ?_ ?_
         rotate_left
         ·intro w'
          go_simp
          with_reducible rfl
         rotate_left
         ·simp only [Act.put, List.setIfInBounds_toArray, List.set_cons_zero, List.set_cons_succ, i64_w, i32_w]
          rfl
         refine pure_ (i := 10) (N := some 89) (v := undef) (a' := ?_) #[true, true, true, true, true, true, true, true, true, true, true, false, false, false, false, false, false, false, false, false, false, false, false, false] rfl rfl (any_of HT_.out (by kernel_rfl)) (fun _ _ _ h => h) (Or.inr ⟨by rfl, rfl⟩) ?_ ?_
         rotate_left
         ·simp only [Act.put, List.setIfInBounds_toArray, List.set_cons_zero, List.set_cons_succ, i64_w, i32_w]
          rfl
         refine pure_ (i := 11) (N := some 90) (v := undef) (a' := ?_) #[true, true, true, true, true, true, true, true, true, true, true, true, false, false, false, false, false, false, false, false, false, false, false, false] rfl rfl (any_of HT_.out (by kernel_rfl)) (fun _ _ _ h => h) (Or.inr ⟨by rfl, rfl⟩) ?_ ?_
         rotate_left
         ·simp only [Act.put, List.setIfInBounds_toArray, List.set_cons_zero, List.set_cons_succ, i64_w, i32_w]
          rfl
         refine pure_ (i := 12) (N := some 91) (v := undef) (a' := ?_) #[true, true, true, true, true, true, true, true, true, true, true, true, true, false, false, false, false, false, false, false, false, false, false, false] rfl rfl (any_of HT_.out (by kernel_rfl)) (fun _ _ _ h => h) (Or.inr ⟨by rfl, rfl⟩) ?_ ?_
         rotate_left
         ·simp only [Act.put, List.setIfInBounds_toArray, List.set_cons_zero, List.set_cons_succ, i64_w, i32_w]
          rfl
         refine pure_ (i := 13) (N := some 92) (v := undef) (a' := ?_) #[true, true, true, true, true, true, true, true, true, true, true, true, true, true, false, false, false, false, false, false, false, false, false, false] rfl rfl (any_of HT_.out (by kernel_rfl)) (fun _ _ _ h => h) (Or.inr ⟨by rfl, rfl⟩) ?_ ?_
         rotate_left
         ·simp only [Act.put, List.setIfInBounds_toArray, List.set_cons_zero, List.set_cons_succ, i64_w, i32_w]
          rfl
         refine pure_ (i := 14) (N := some 93) (v := undef) (a' := ?_) #[true, true, true, true, true, true, true, true, true, true, true, true, true, true, true, false, false, false, false, false, false, false, false, false] rfl rfl (any_of HT_.out (by kernel_rfl)) (fun _ _ _ h => h) (Or.inr ⟨by rfl, rfl⟩) ?_ ?_
         rotate_left
         ·simp only [Act.put, List.setIfInBounds_toArray, List.set_cons_zero, List.set_cons_succ, i64_w, i32_w]
          rfl
         refine pure_ (i := 15) (N := some 94) (v := undef) (a' := ?_) #[true, true, true, true, true, true, true, true, true, true, true, true, true, true, true, true, false, false, false, false, false, false, false, false] rfl rfl (any_of HT_.out (by kernel_rfl)) (fun _ _ _ h => h) (Or.inr ⟨by rfl, rfl⟩) ?_ ?_
         rotate_left
         ·simp only [Act.put, List.setIfInBounds_toArray, List.set_cons_zero, List.set_cons_succ, i64_w, i32_w]
          rfl
         refine pure_ (i := 16) (N := some 95) (v := undef) (a' := ?_) #[true, true, true, true, true, true, true, true, true, true, true, true, true, true, true, true, true, false, false, false, false, false, false, false] rfl rfl (any_of HT_.out (by kernel_rfl)) (fun _ _ _ h => h) (Or.inr ⟨by rfl, rfl⟩) ?_ ?_
         rotate_left
         ·simp only [Act.put, List.setIfInBounds_toArray, List.set_cons_zero, List.set_cons_succ, i64_w, i32_w]
          rfl
         refine pure_ (i := 17) (N := some 96) (v := undef) (a' := ?_) #[true, true, true, true, true, true, true, true, true, true, true, true, true, true, true, true, true, true, false, false, false, false, false, false] rfl rfl (any_of HT_.out (by kernel_rfl)) (fun _ _ _ h => h) (Or.inr ⟨by rfl, rfl⟩) ?_ ?_
         rotate_left
         ·simp only [Act.put, List.setIfInBounds_toArray, List.set_cons_zero, List.set_cons_succ, i64_w, i32_w]
          rfl
         refine pure_ (i := 18) (N := some 97) (v := undef) (a' := ?_) #[true, true, true, true, true, true, true, true, true, true, true, true, true, true, true, true, true, true, true, false, false, false, false, false] rfl rfl (any_of HT_.out (by kernel_rfl)) (fun _ _ _ h => h) (Or.inr ⟨by rfl, rfl⟩) ?_ ?_
         rotate_left
         ·simp only [Act.put, List.setIfInBounds_toArray, List.set_cons_zero, List.set_cons_succ, i64_w, i32_w]
          rfl
         refine pure_ (i := 19) (N := some 98) (v := undef) (a' := ?_) #[true, true, true, true, true, true, true, true, true, true, true, true, true, true, true, true, true, true, true, true, false, false, false, false] rfl rfl (any_of HT_.out (by kernel_rfl)) (fun _ _ _ h => h) (Or.inr ⟨by rfl, rfl⟩) ?_ ?_
         rotate_left
         ·simp only [Act.put, List.setIfInBounds_toArray, List.set_cons_zero, List.set_cons_succ, i64_w, i32_w]
          rfl
         refine pure_ (i := 20) (N := some 99) (v := undef) (a' := ?_) #[true, true, true, true, true, true, true, true, true, true, true, true, true, true, true, true, true, true, true, true, true, false, false, false] rfl rfl (any_of HT_.out (by kernel_rfl)) (fun _ _ _ h => h) (Or.inr ⟨by rfl, rfl⟩) ?_ ?_
         rotate_left
         ·simp only [Act.put, List.setIfInBounds_toArray, List.set_cons_zero, List.set_cons_succ, i64_w, i32_w]
          rfl
         refine pure_ (i := 21) (N := some 100) (v := undef) (a' := ?_) #[true, true, true, true, true, true, true, true, true, true, true, true, true, true, true, true, true, true, true, true, true, true, false, false] rfl rfl (any_of HT_.out (by kernel_rfl)) (fun _ _ _ h => h) (Or.inr ⟨by rfl, rfl⟩) ?_ ?_
         rotate_left
         ·simp only [Act.put, List.setIfInBounds_toArray, List.set_cons_zero, List.set_cons_succ, i64_w, i32_w]
          rfl
         refine pure_ (i := 22) (N := some 101) (v := undef) (a' := ?_) #[true, true, true, true, true, true, true, true, true, true, true, true, true, true, true, true, true, true, true, true, true, true, true, false] rfl rfl (any_of HT_.out (by kernel_rfl)) (fun _ _ _ h => h) (Or.inr ⟨by rfl, rfl⟩) ?_ ?_
         rotate_left
         ·simp only [Act.put, List.setIfInBounds_toArray, List.set_cons_zero, List.set_cons_succ, i64_w, i32_w]
          rfl
         refine pure_ (i := 23) (N := some 102) (v := ?_) (a' := ?_) #[true, true, true, true, true, true, true, true, true, true, true, true, true, true, true, true, true, true, true, true, true, true, true, true] rfl rfl (any_of HT_.out (by kernel_rfl)) (fun _ _ _ h => h) (Or.inl ⟨by rfl, ?_⟩) ?_ ?_
         rotate_left
         ·intro w'
          go_simp
          with_reducible rfl
         rotate_left
         ·simp only [Act.put, List.setIfInBounds_toArray, List.set_cons_zero, List.set_cons_succ, i64_w, i32_w]
          rfl
         refine done_ (done_of HT_.out (by kernel_rfl)) ?_
         clear qz
         go_wp2
         exact ⟨⟨g + 1, hgt, by first | rfl | (simp; done) | (congr 1; omega), vg, FR.out, by rw [HE.out]; exact CP.out, by rw [HE.out]; exact BV.out, BX.out⟩, by simp [intOf]; omega⟩
       ·obtain rfl : g = win.length := by omega
        go_wp2
        exact ⟨⟨i + 1, hlt, rfl, vg, FR.out, by rw [HE1.out, HBG.out]; exact CP.out, by rw [HE1.out, HBG.out]; exact BV.out⟩, by simp [intOf]; omega⟩
  ·obtain rfl : i = l.length := by omega
   go_wp2
   (try simp only [Exit.inBlock, Exit.then])
   first | (refine bodyPost_ret (results_none rfl _ _ _) rfl ?_) | (refine bodyPost_end (results_none rfl _ _ _) rfl ?_)
   exact ⟨by first | rfl | (simp; done), FR.out, vi, by rw [HBI.out]; exact CP.out, by rw [HBI.out]; exact BV.out⟩
set_option maxHeartbeats 4000000 in
set_option maxRecDepth 100000 in
theorem next_calls (w0 : World) (l : List S34) (win : List Bool) (Al Aw : Option Addr) (cl cw P : Nat) (hl : Kd.C k34 w0 Al l.length l) (hw : Kd.C Kd.bool w0 Aw win.length win) (hlc : l.length ≤ 100) (hwc : win.length ≤ 100) (hP : w0.heap.size ≤ P) (hlcl : l.length ≤ cl) (hwcw : win.length ≤ cw) :
  ∀ (n : Nat), ∀ (plan : List S37) (v : Value) (be : Int) (bp : List S37) (vb : Value) (w : World) (hpn : plan.length + n = l.length) (hin : ∀ k : Nat, k < plan.length → runAt l (rd_T37 plan k).f1 < l.length) (hB0 : Below w0.heap.size w0 w) (hcP : w.heap[P]? = some (seC l Al cl win Aw cw be vb)) (hbv : Kd.N k37 37 w w0.heap.size (fun k => k ≠ P) vb bp) (hpv : Kd.N k37 37 w w0.heap.size (fun k => k ≠ P) v plan), Calls Try.prog 46 #[.pointer (some ⟨P, 0, none⟩), v] w fun e_ w' => e_ = .returned (.tuple #[]) ∧ Frm (fun k => k = P) w w' ∧ ∃ vb' : Value, w'.heap[P]? = some (seC l Al cl win Aw cw (nxt l win (n) plan (bp, be)).2 vb') ∧ Kd.N k37 37 w' w0.heap.size (fun k => k ≠ P) vb' (nxt l win (n) plan (bp, be)).1 := by
 intro n
 induction n with
 | zero =>
  intro plan v be bp vb w hpn hin hB0 hcP hbv hpv
  exact next_zero w0 l win Al Aw cl cw P hl hw hlc hwc hP hlcl hwcw plan v be bp vb w hpn hin hB0 hcP hbv hpv
 | succ n ih =>
  intro plan v be bp vb w hpn hin hB0 hcP hbv hpv
  exact next_succ w0 l win Al Aw cl cw P hl hw hlc hwc hP hlcl hwcw n ih plan v be bp vb w hpn hin hB0 hcP hbv hpv

end Go.Proofs.Yticfgecicmgpeaa.A
