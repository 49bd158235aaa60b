-- PRINTED by print.py (a twelfth state) out of the translation. Not trusted: Lean checks it.
import Derived.Test.YticfgecicmgpeaaAx0
import Derived.Test.YticfgecicmgpeaaAx5
import Derived.Test.YticfgecicmgpeaaAx6
import Derived.Test.YticfgecicmgpeaaAx26
import Derived.Test.YticfgecicmgpeaaAx38
import Derived.Test.YticfgecicmgpeaaAx44
namespace Go.Proofs.Yticfgecicmgpeaa.A
open Go.RowKit Go.Proofs.YticfgecicmgpeaaW.PrintWords Go.Proofs.YticfgecicmgpeaaW.PrintLast Go.Proofs.YticfgecicmgpeaaW.PrintMore
attribute [local go_sem] max2_int min2_int max_two min_two max_three min_three max_four min_four   -- for this text's walks alone
set_option linter.unusedVariables false
set_option linter.unusedSimpArgs false

/-! ### skiarearef47_Valid: function 20 -/
def fitsB (l : List S34) (win : List Bool) (s : S37) : Bool := decide (runAt l s.f1 < l.length ∧ 1 ≤ s.f0 ∧ s.f0 ≤ win.length ∧ 0 ≤ s.f2 ∧ s.f2 ≤ s.f3) && (decide (wrap64 (s.f3 - s.f2) = (rd_T34 l (runAt l s.f1 : Nat)).f1) && (rdOf false win (s.f0 - 1) || !(rd_T34 l (runAt l s.f1 : Nat)).f2))
theorem fits_ev (l : List S34) (win : List Bool) (s : S37) (hl : l.length ≤ 9223372036854775807) (hw : win.length ≤ 9223372036854775807) : Ev (fun k => skiarearef47_fits.f k l win s.f0 s.f1 s.f2 s.f3) (fitsB l win s) := by
 refine Ev.bind (find_ev l s.f1 hl) ?_
 have hno : ∀ h : ¬ (runAt l s.f1 < l.length ∧ 1 ≤ s.f0 ∧ s.f0 ≤ win.length ∧ 0 ≤ s.f2 ∧ s.f2 ≤ s.f3), fitsB l win s = false := fun h => by unfold fitsB; rw [decide_eq_false h]; rfl
 have hj : ∀ b, (b = true → fitsB l win s = false) → (b = false → Ev (fun k => skiarearef47_fits.j0 k l win (taskV l s.f1) false s.f0 s.f1 s.f2 s.f3) (fitsB l win s)) → Ev (fun k => skiarearef47_fits.j0 k l win (taskV l s.f1) b s.f0 s.f1 s.f2 s.f3) (fitsB l win s) := fun b h1 h2 => by
  cases b with
  | false => exact h2 rfl
  | true => rw [h1 rfl]; exact Ev.step (fun k => by rw [skiarearef47_fits.j0, if_pos rfl]) (Ev.now _)
 have ht := fun h => hj true h (fun h => by cases h)
 by_cases hr : runAt l s.f1 < l.length
 ·have e : taskV l s.f1 = (runAt l s.f1 : Int) := if_pos hr
  refine Ev.no (by rw [e]; omega) ?_
  refine Ev.ite (fun h => ht (fun _ => hno (fun c => by omega))) (fun h1 => Ev.ite (fun h => ht (fun _ => hno (fun c => by omega))) (fun h2 => Ev.ite (fun h => ht (fun _ => hno (fun c => by omega))) (fun h3 => ?_)))
  refine hj _ (fun h => hno (fun c => by have := of_decide_eq_true h; omega)) (fun h => ?_)
  have h4 := of_decide_eq_false h
  have h5 : wrap64 (s.f0 - 1) = s.f0 - 1 := wrap_id (by omega)
  have hc : runAt l s.f1 < l.length ∧ 1 ≤ s.f0 ∧ s.f0 ≤ win.length ∧ 0 ≤ s.f2 ∧ s.f2 ≤ s.f3 := ⟨hr, by omega, by omega, by omega, by omega⟩
  rw [e]
  by_cases h6 : wrap64 (s.f3 - s.f2) = (rd_T34 l (runAt l s.f1 : Nat)).f1
  ·have hf : fitsB l win s = (rdOf false win (s.f0 - 1) || !(rd_T34 l (runAt l s.f1 : Nat)).f2) := by unfold fitsB; rw [decide_eq_true hc, decide_eq_true h6]; rfl
   rw [hf]
   cases hb : rdOf false win (s.f0 - 1) with
   | true => exact Ev.step (fun k => by rw [skiarearef47_fits.j0, if_neg (by decide), if_pos (by omega), if_pos (by omega), if_pos h6, h5, if_pos (by omega), if_pos (by omega), if_pos hb]; simp) (Ev.now _)
   | false => exact Ev.step (fun k => by rw [skiarearef47_fits.j0, if_neg (by decide), if_pos (by omega), if_pos (by omega), if_pos h6, h5, if_pos (by omega), if_pos (by omega), if_neg (by rw [hb]; decide)]; simp) (Ev.now _)
  ·have hf : fitsB l win s = false := by unfold fitsB; rw [decide_eq_false h6, Bool.false_and, Bool.and_false]
   rw [hf]
   exact Ev.step (fun k => by rw [skiarearef47_fits.j0, if_neg (by decide), if_pos (by omega), if_pos (by omega), if_neg h6]) (Ev.now _)
 ·have e : taskV l s.f1 = -1 := if_neg hr
  exact Ev.yes (by rw [e]; omega) (ht (fun _ => hno (fun c => hr c.1)))
theorem fits_calls (l : List S34) (win : List Bool) (s : S37) (A B : Option Addr) (c d : Nat) (w : World) (hl : Kd.C k34 w A l.length l) (hlc : l.length ≤ c) (hw : Kd.C Kd.bool w B win.length win) (hwc : win.length ≤ d) :
  Calls Try.prog 31 #[.slice A l.length c, .slice B win.length d, .agg #[.int .i64 s.f0, .int .i64 s.f1, .int .i64 s.f2, .int .i64 s.f3]] w fun e w' => e = .returned (.bool (fitsB l win s)) ∧ Below w.heap.size w w' := by
 obtain ⟨k, hk⟩ := (fits_ev l win s hl.2.1 hw.2.1).rounds
 exact skiarearef47_fits.calls k A c l B d win s.f0 s.f1 s.f2 s.f3 _ w hl hlc hw hwc hk
def overB (a b : S37) : Bool := decide (a.f2 < b.f3) && decide (b.f2 < a.f3)
def badB (l : List S34) (a b : S37) : Bool := (a.f1 == b.f1) || (overB a b && ((a.f0 == b.f0) || clashT (rd_T34 l (runAt l a.f1 : Nat)) (rd_T34 l (runAt l b.f1 : Nat))))
def rvK (l : List S34) (plan : List S37) (i : Nat) : Nat → Bool
 | 0 => true
 | k + 1 => rvK l plan i k && !badB l (rd_T37 plan i) (rd_T37 plan k)
def rvTo (l : List S34) (win : List Bool) (plan : List S37) : Nat → Bool
 | 0 => true
 | i + 1 => rvTo l win plan i && (fitsB l win (rd_T37 plan i) && rvK l plan i i)
def rvalV (l : List S34) (win : List Bool) (plan : List S37) : Bool := (plan.length == l.length) && rvTo l win plan plan.length
theorem rvK_no {l : List S34} {plan : List S37} {i k : Nat} (h : rvK l plan i k = false) : ∀ d, rvK l plan i (k + d) = false
 | 0 => h
 | d + 1 => by rw [← Nat.add_assoc, rvK, rvK_no h d]; rfl
theorem rvTo_no {l : List S34} {win : List Bool} {plan : List S37} {k : Nat} (h : rvTo l win plan k = false) : ∀ d, rvTo l win plan (k + d) = false
 | 0 => h
 | d + 1 => by rw [← Nat.add_assoc, rvTo, rvTo_no h d]; rfl
theorem rv_fits {l : List S34} {win : List Bool} {plan : List S37} {i : Nat} (hi : i < plan.length) (h : fitsB l win (rd_T37 plan i) = false) : rvalV l win plan = false := by
 have := rvTo_no (l := l) (win := win) (plan := plan) (k := i + 1) (by rw [rvTo, h]; simp) (plan.length - (i + 1))
 rw [show i + 1 + (plan.length - (i + 1)) = plan.length by omega] at this
 rw [rvalV, this, Bool.and_false]
theorem rv_bad {l : List S34} {win : List Bool} {plan : List S37} {i k : Nat} (hi : i < plan.length) (hk : k < i) (h : badB l (rd_T37 plan i) (rd_T37 plan k) = true) : rvalV l win plan = false := by
 have h1 := rvK_no (l := l) (plan := plan) (i := i) (k := k + 1) (by rw [rvK, h]; simp) (i - (k + 1))
 rw [show k + 1 + (i - (k + 1)) = i by omega] at h1
 have := rvTo_no (l := l) (win := win) (plan := plan) (k := i + 1) (by rw [rvTo, h1]; simp) (plan.length - (i + 1))
 rw [show i + 1 + (plan.length - (i + 1)) = plan.length by omega] at this
 rw [rvalV, this, Bool.and_false]
theorem rv_in {l : List S34} {win : List Bool} {plan : List S37} : ∀ {i : Nat}, rvTo l win plan i = true → ∀ k, k < i → fitsB l win (rd_T37 plan k) = true
 | 0, _, k, hk => absurd hk (by omega)
 | i + 1, h, k, hk => by
  simp only [rvTo, Bool.and_eq_true] at h
  by_cases he : k = i
  ·subst he; exact h.2.1
  ·exact rv_in h.1 k (by omega)
theorem fits_in {l : List S34} {win : List Bool} {s : S37} (h : fitsB l win s = true) : runAt l s.f1 < l.length := by
 simp only [fitsB, Bool.and_eq_true, decide_eq_true_eq] at h
 exact h.1.1
def X20.T11 : Bool × List (List Nat × List Nat) := (true, [([], []), ([], []), ([0, 1], [0, 1]), ([2], [2]), ([], []), ([], []), ([4, 5], [4, 5]), ([6], [6]), ([], []), ([], []), ([8, 3, 0, 1, 2, 3, 8, 9], [3, 8]), ([9, 7, 10, 0, 1, 2, 3, 4, 5, 6, 7, 8, 9, 10], [7, 9])])
def X20.B11 : List Nat := [0, 0, 3, 7, 0, 0, 48, 112, 0, 0, 783, 2047]
theorem X20.tab11 : rtab .any (opsOf Try.f20 11) = X20.T11 := by kernel_rfl
theorem X20.bits11 : waitsOk X20.T11.2 X20.B11 = true := by kernel_rfl
def X20.T15 : Bool × List (List Nat × List Nat) := (true, [([], []), ([0], [0]), ([1], [1]), ([2, 1], [1, 2]), ([1], [1]), ([4, 1], [1, 4]), ([3, 5, 1], [1, 3, 5]), ([6, 1, 1], [1, 6]), ([7], [7]), ([7], [7]), ([7], [7]), ([10, 7], [7, 10]), ([9, 11, 7, 7], [7, 9, 11]), ([8, 12, 7], [7, 8, 12]), ([13, 7], [7, 13]), ([7], [7]), ([7], [7]), ([7], [7]), ([17, 7], [7, 17]), ([16, 18, 12, 7], [7, 16, 18]), ([15, 19, 7], [7, 15, 19]), ([20, 7], [7, 20]), ([14, 21, 19, 7], [7, 14, 21]), ([7, 22, 1], [1, 7, 22]), ([1, 23], [1, 23])])
def X20.B15 : List Nat := [0, 1, 3, 7, 3, 19, 63, 127, 255, 255, 255, 1279, 3839, 8191, 16383, 255, 255, 255, 131327, 466687, 1023743, 2072319, 4194303, 8388607, 16777215]
theorem X20.tab15 : rtab .any (opsOf Try.f20 15) = X20.T15 := by kernel_rfl
theorem X20.bits15 : waitsOk X20.T15.2 X20.B15 = true := by kernel_rfl
set_option maxHeartbeats 4000000 in
set_option maxRecDepth 100000 in
theorem valid_calls (Al Aw Ap : Option Addr) (cl cw cp : Nat) (l : List S34) (win : List Bool) (plan : List S37) (w : World) (hl : Kd.C k34 w Al l.length l) (hlc : l.length ≤ cl) (hw : Kd.C Kd.bool w Aw win.length win) (hwc : win.length ≤ cw) (hp : Kd.C k37 w Ap plan.length plan) (hpc : plan.length ≤ cp) :
  Calls Try.prog 20 #[.slice Al l.length cl, .slice Aw win.length cw, .slice Ap plan.length cp] w fun e_ w' => e_ = .returned (.bool (rvalV l win plan)) ∧ Below w.heap.size w w' := by
 have hu34 := Try.underlying34
 have hu37 := Try.underlying37
 have hm : plan.length ≤ 9223372036854775807 := hp.2.1
 have hml : l.length ≤ 9223372036854775807 := hl.2.1
 have HL := Aside0.mk hl
 have HLC := Aside0.mk hlc
 have HW := Aside0.mk hw
 have HWC := Aside0.mk hwc
 have HPP := Aside0.mk hp
 have HPC := Aside0.mk hpc
 clear hl hlc hw hwc hp hpc
 have HB := Aside0.mk (Below.refl w.heap.size w)
 by_cases hle : plan.length = l.length
 ·have q0 : ((plan.length : Int) != (l.length : Int)) = false := by rw [hle]; simp
  have q0b : ((plan.length : Int) == (l.length : Int)) = true := beq_iff_eq.mpr (by omega)
  have HLE := Aside0.mk hle
  clear hle
  go_enter Try.func20, Try.ntmps20
  go_wp2_with fail
  go_loopw [7] (fun v7 wr => ∃ i : Nat, i ≤ plan.length ∧ v7 = .int .i64 i ∧ rvTo l win plan i = true ∧ Below w.heap.size w wr) (fun v7 _ => plan.length - (intOf v7).toNat)
  case atStart => exact ⟨0, Nat.zero_le _, rfl, rfl, HB.out⟩
  case round =>
   clear HB
   obtain ⟨i, hi, rfl, hrv, hb⟩ := hrel
   have HRV := Aside0.mk hrv
   have HB := Aside0.mk hb
   clear hrv hb
   by_cases hlt : i < plan.length
   ·obtain ⟨ap, eP, xi0, xi1, xi2, xi3⟩ := at_T37 HPP.out (i : Int) (by omega) (by omega)
    subst eP
    rw [Int.toNat_natCast] at xi0 xi1 xi2 xi3
    have XI0 := Aside0.mk xi0
    have XI1 := Aside0.mk xi1
    have XI2 := Aside0.mk xi2
    have XI3 := Aside0.mk xi3
    replace xi0 := (HB.out.cell (World.block_lt_of_cell? w _ xi0)).trans xi0
    replace xi1 := (HB.out.cell (World.block_lt_of_cell? w _ xi1)).trans xi1
    replace xi2 := (HB.out.cell (World.block_lt_of_cell? w _ xi2)).trans xi2
    replace xi3 := (HB.out.cell (World.block_lt_of_cell? w _ xi3)).trans xi3
    go_wp2_with fail
    refine (fits_calls l win (rd_T37 plan i) Al Aw cl cw _ (Kd.C_below HL.out HB.out) HLC.out (Kd.C_below HW.out HB.out) HWC.out).mono ?_
    rintro e_ w1 ⟨rfl, hb⟩
    have nHB_ := Aside0.mk (below_step HB.out hb)
    clear hb HB
    have HB := nHB_
    clear nHB_
    clear xi0 xi1 xi2 xi3
    cases hf : fitsB l win (rd_T37 plan i) with
    | false =>
     have HV := Aside0.mk (show rvalV l win plan = false from rv_fits hlt hf)
     go_wp2
     go_ret
     exact ⟨by rw [HV.out]; first | rfl | (simp; done), HB.out⟩
    | true =>
     have HF := Aside0.mk hf
     clear hf
     go_wp2_with fail
     go_loopw [8] (fun v8 wr => ∃ k : Nat, k ≤ i ∧ v8 = .int .i64 k ∧ rvK l plan i k = true ∧ Below w.heap.size w wr) (fun v8 _ => i - (intOf v8).toNat)
     case atStart => exact ⟨0, Nat.zero_le _, rfl, rfl, HB.out⟩
     case round =>
      clear HB
      obtain ⟨k, hk, rfl, hrk, hb⟩ := hrel
      have HRK := Aside0.mk hrk
      have HB := Aside0.mk hb
      clear hrk hb
      by_cases hkt : k < i
      ·obtain ⟨ap_, eP, xk0, xk1, xk2, xk3⟩ := at_T37 HPP.out (k : Int) (by omega) (by omega)
       injection eP with eP
       subst eP
       rw [Int.toNat_natCast] at xk0 xk1 xk2 xk3
       have XK0 := Aside0.mk xk0
       have XK1 := Aside0.mk xk1
       have XK2 := Aside0.mk xk2
       have XK3 := Aside0.mk xk3
       clear xk0 xk1 xk2 xk3
       have hkl : k < plan.length := by omega
       go_wp2_with fail
       have hb := below_drew (Below.refl wr.heap.size wr)
       have nHB_ := Aside0.mk (below_step HB.out hb)
       clear hb HB
       have HB := nHB_
       clear nHB_
       refine start_ (n := 12) (S := fun w' => w'.cell? (ap.add (i * 4)) = some (.int .i64 (rd_T37 plan i).f0) ∧ w'.cell? ⟨(ap.add (i * 4)).block, (ap.add (i * 4)).off + 1, none⟩ = some (.int .i64 (rd_T37 plan i).f1) ∧ w'.cell? ⟨(ap.add (i * 4)).block, (ap.add (i * 4)).off + 2, none⟩ = some (.int .i64 (rd_T37 plan i).f2) ∧ w'.cell? ⟨(ap.add (i * 4)).block, (ap.add (i * 4)).off + 3, none⟩ = some (.int .i64 (rd_T37 plan i).f3) ∧ w'.cell? (ap.add (k * 4)) = some (.int .i64 (rd_T37 plan k).f0) ∧ w'.cell? ⟨(ap.add (k * 4)).block, (ap.add (k * 4)).off + 1, none⟩ = some (.int .i64 (rd_T37 plan k).f1) ∧ w'.cell? ⟨(ap.add (k * 4)).block, (ap.add (k * 4)).off + 2, none⟩ = some (.int .i64 (rd_T37 plan k).f2) ∧ w'.cell? ⟨(ap.add (k * 4)).block, (ap.add (k * 4)).off + 3, none⟩ = some (.int .i64 (rd_T37 plan k).f3)) (ds := [11]) #[false, false, false, false, false, false, false, false, false, false, false, false] (by kernel_rfl) rfl rfl ⟨((HB.out.cell (World.block_lt_of_cell? w _ XI0.out)).trans XI0.out), ((HB.out.cell (World.block_lt_of_cell? w _ XI1.out)).trans XI1.out), ((HB.out.cell (World.block_lt_of_cell? w _ XI2.out)).trans XI2.out), ((HB.out.cell (World.block_lt_of_cell? w _ XI3.out)).trans XI3.out), ((HB.out.cell (World.block_lt_of_cell? w _ XK0.out)).trans XK0.out), ((HB.out.cell (World.block_lt_of_cell? w _ XK1.out)).trans XK1.out), ((HB.out.cell (World.block_lt_of_cell? w _ XK2.out)).trans XK2.out), ((HB.out.cell (World.block_lt_of_cell? w _ XK3.out)).trans XK3.out)⟩ (fun hHeld => ?_)
       refine with_tabW X20.tab11 X20.bits11 (fun HT_ HW_ => ?_)
       generalize wr.drew = wd at HB hHeld ⊢
       refine pure_ (i := 0) (N := some 36) (v := ?_) (a' := ?_) #[true, false, false, false, false, false, false, false, false, false, false, false] rfl rfl (any_of HT_.out (by kernel_rfl)) (fun _ _ _ h => h) (Or.inl ⟨by rfl, ?_⟩) ?_ ?_
       rotate_left
       ·intro w'
        go_simp
        with_reducible rfl
       rotate_left
       ·simp only [Act.put, List.setIfInBounds_toArray, List.set_cons_zero, List.set_cons_succ, i64_w, i32_w]
        rfl
       refine pure_ (i := 1) (N := some 37) (v := ?_) (a' := ?_) #[true, true, false, false, false, false, false, false, false, false, false, false] rfl rfl (any_of HT_.out (by kernel_rfl)) (fun _ _ _ h => h) (Or.inl ⟨by rfl, ?_⟩) ?_ ?_
       rotate_left
       ·intro w'
        go_simp
        with_reducible rfl
       rotate_left
       ·simp only [Act.put, List.setIfInBounds_toArray, List.set_cons_zero, List.set_cons_succ, i64_w, i32_w]
        rfl
       refine pure_ (i := 2) (N := some 38) (v := ?_) (a' := ?_) #[true, true, true, false, false, false, false, false, false, false, false, false] rfl rfl (any_of HT_.out (by kernel_rfl)) (fun _ _ _ h => h) (Or.inl ⟨by rfl, ?_⟩) ?_ ?_
       rotate_left
       ·intro w'
        go_simp
        with_reducible rfl
       rotate_left
       ·simp only [Act.put, List.setIfInBounds_toArray, List.set_cons_zero, List.set_cons_succ, i64_w, i32_w]
        rfl
       refine pure_ (i := 4) (N := some 40) (v := ?_) (a' := ?_) #[true, true, true, false, true, false, false, false, false, false, false, false] rfl rfl (any_of HT_.out (by kernel_rfl)) (fun _ _ _ h => h) (Or.inl ⟨by rfl, ?_⟩) ?_ ?_
       rotate_left
       ·intro w'
        go_simp
        with_reducible rfl
       rotate_left
       ·simp only [Act.put, List.setIfInBounds_toArray, List.set_cons_zero, List.set_cons_succ, i64_w, i32_w]
        rfl
       refine pure_ (i := 5) (N := some 41) (v := ?_) (a' := ?_) #[true, true, true, false, true, true, false, false, false, false, false, false] rfl rfl (any_of HT_.out (by kernel_rfl)) (fun _ _ _ h => h) (Or.inl ⟨by rfl, ?_⟩) ?_ ?_
       rotate_left
       ·intro w'
        go_simp
        with_reducible rfl
       rotate_left
       ·simp only [Act.put, List.setIfInBounds_toArray, List.set_cons_zero, List.set_cons_succ, i64_w, i32_w]
        rfl
       refine pure_ (i := 6) (N := some 42) (v := ?_) (a' := ?_) #[true, true, true, false, true, true, true, false, false, false, false, false] rfl rfl (any_of HT_.out (by kernel_rfl)) (fun _ _ _ h => h) (Or.inl ⟨by rfl, ?_⟩) ?_ ?_
       rotate_left
       ·intro w'
        go_simp
        with_reducible rfl
       rotate_left
       ·simp only [Act.put, List.setIfInBounds_toArray, List.set_cons_zero, List.set_cons_succ, i64_w, i32_w]
        rfl
       refine take_ (i := 3) (N := some 39) (v := ?_) (a' := ?_) #[true, true, true, true, true, true, true, false, false, false, false, false] rfl rfl (take_ofW HT_.out HW_.out (by kernel_rfl)) (fun _ _ _ h => h) (Or.inl ⟨by rfl, ?_⟩) hHeld ?_ ?_
       rotate_left
       ·rintro w' ⟨s0, s1, s2, s3, s4, s5, s6, s7⟩
        go_simp
        with_reducible rfl
       rotate_left
       ·simp only [Act.put, List.setIfInBounds_toArray, List.set_cons_zero, List.set_cons_succ, i64_w, i32_w]
        rfl
       refine take_ (i := 7) (N := some 43) (v := ?_) (a' := ?_) #[true, true, true, true, true, true, true, true, false, false, false, false] rfl rfl (take_ofW HT_.out HW_.out (by kernel_rfl)) (fun _ _ _ h => h) (Or.inl ⟨by rfl, ?_⟩) hHeld ?_ ?_
       rotate_left
       ·rintro w' ⟨s0, s1, s2, s3, s4, s5, s6, s7⟩
        go_simp
        with_reducible rfl
       rotate_left
       ·simp only [Act.put, List.setIfInBounds_toArray, List.set_cons_zero, List.set_cons_succ, i64_w, i32_w]
        rfl
       refine join_ (σ := Nat × Nat) 2 #[true, true, true, true, true, true, true, true, true, true, false, false] (fun s => [(9, .pointer (some ⟨s.1, 0, none⟩)), (10, .pointer (some ⟨s.2, 0, none⟩))]) (fun s w' => Below w.heap.size w w' ∧ w.heap.size ≤ s.1 ∧ w.heap.size ≤ s.2 ∧ s.1 ≠ s.2 ∧ w'.heap[s.1]? = some (.cells #[.int .i64 0, .int .i64 0, .int .i64 0, .int .i64 0] 37) ∧ w'.heap[s.2]? = some (.cells #[.int .i64 0, .int .i64 0, .int .i64 0, .int .i64 0] 37)) ?_ ?_
       rotate_left
       ·intro hCont
        refine two_ (i := 8) (j := 9) (Ni := some 9) (Nj := some 10) #[true, true, true, true, true, true, true, true, true, false, false, false] #[true, true, true, true, true, true, true, true, false, true, false, false] rfl rfl rfl rfl (two_of HT_.out (by kernel_rfl)) (by decide) (by decide) (fun K hK => ?_) (fun K hK => ?_)
        ·skip
         refine value_ (w1 := (wd.alloc (.cells #[.int .i64 0, .int .i64 0, .int .i64 0, .int .i64 0] 37))) (v := .pointer (some ⟨wd.heap.size, 0, none⟩)) (by rfl) rfl ?_ ?_
         ·go_simp
          try rfl
         refine hK.out _ _ ⟨(((below_alloc HB.out (.cells #[.int .i64 0, .int .i64 0, .int .i64 0, .int .i64 0] 37)).cell (World.block_lt_of_cell? w _ XI0.out)).trans XI0.out), (((below_alloc HB.out (.cells #[.int .i64 0, .int .i64 0, .int .i64 0, .int .i64 0] 37)).cell (World.block_lt_of_cell? w _ XI1.out)).trans XI1.out), (((below_alloc HB.out (.cells #[.int .i64 0, .int .i64 0, .int .i64 0, .int .i64 0] 37)).cell (World.block_lt_of_cell? w _ XI2.out)).trans XI2.out), (((below_alloc HB.out (.cells #[.int .i64 0, .int .i64 0, .int .i64 0, .int .i64 0] 37)).cell (World.block_lt_of_cell? w _ XI3.out)).trans XI3.out), (((below_alloc HB.out (.cells #[.int .i64 0, .int .i64 0, .int .i64 0, .int .i64 0] 37)).cell (World.block_lt_of_cell? w _ XK0.out)).trans XK0.out), (((below_alloc HB.out (.cells #[.int .i64 0, .int .i64 0, .int .i64 0, .int .i64 0] 37)).cell (World.block_lt_of_cell? w _ XK1.out)).trans XK1.out), (((below_alloc HB.out (.cells #[.int .i64 0, .int .i64 0, .int .i64 0, .int .i64 0] 37)).cell (World.block_lt_of_cell? w _ XK2.out)).trans XK2.out), (((below_alloc HB.out (.cells #[.int .i64 0, .int .i64 0, .int .i64 0, .int .i64 0] 37)).cell (World.block_lt_of_cell? w _ XK3.out)).trans XK3.out)⟩ (fun hHeld => ?_)
         clear hK K
         refine norm_ (a' := ?_) ?_ ?_
         rotate_left
         ·show Act.put _ (some 9) _ = _
          simp only [Act.put, List.setIfInBounds_toArray, List.set_cons_zero, List.set_cons_succ, i64_w, i32_w]
          rfl
         refine one_ (i := 9) (N := some 10) #[true, true, true, true, true, true, true, true, true, true, false, false] rfl rfl (one_of HT_.out (by kernel_rfl)) (by decide) (fun K hK => ?_)
         refine value_ (w1 := ((wd.alloc (.cells #[.int .i64 0, .int .i64 0, .int .i64 0, .int .i64 0] 37)).alloc (.cells #[.int .i64 0, .int .i64 0, .int .i64 0, .int .i64 0] 37))) (v := .pointer (some ⟨(wd.alloc (.cells #[.int .i64 0, .int .i64 0, .int .i64 0, .int .i64 0] 37)).heap.size, 0, none⟩)) (by rfl) rfl ?_ ?_
         ·go_simp
          try rfl
         refine hK.out _ _ ⟨(((below_alloc (below_alloc HB.out (.cells #[.int .i64 0, .int .i64 0, .int .i64 0, .int .i64 0] 37)) (.cells #[.int .i64 0, .int .i64 0, .int .i64 0, .int .i64 0] 37)).cell (World.block_lt_of_cell? w _ XI0.out)).trans XI0.out), (((below_alloc (below_alloc HB.out (.cells #[.int .i64 0, .int .i64 0, .int .i64 0, .int .i64 0] 37)) (.cells #[.int .i64 0, .int .i64 0, .int .i64 0, .int .i64 0] 37)).cell (World.block_lt_of_cell? w _ XI1.out)).trans XI1.out), (((below_alloc (below_alloc HB.out (.cells #[.int .i64 0, .int .i64 0, .int .i64 0, .int .i64 0] 37)) (.cells #[.int .i64 0, .int .i64 0, .int .i64 0, .int .i64 0] 37)).cell (World.block_lt_of_cell? w _ XI2.out)).trans XI2.out), (((below_alloc (below_alloc HB.out (.cells #[.int .i64 0, .int .i64 0, .int .i64 0, .int .i64 0] 37)) (.cells #[.int .i64 0, .int .i64 0, .int .i64 0, .int .i64 0] 37)).cell (World.block_lt_of_cell? w _ XI3.out)).trans XI3.out), (((below_alloc (below_alloc HB.out (.cells #[.int .i64 0, .int .i64 0, .int .i64 0, .int .i64 0] 37)) (.cells #[.int .i64 0, .int .i64 0, .int .i64 0, .int .i64 0] 37)).cell (World.block_lt_of_cell? w _ XK0.out)).trans XK0.out), (((below_alloc (below_alloc HB.out (.cells #[.int .i64 0, .int .i64 0, .int .i64 0, .int .i64 0] 37)) (.cells #[.int .i64 0, .int .i64 0, .int .i64 0, .int .i64 0] 37)).cell (World.block_lt_of_cell? w _ XK1.out)).trans XK1.out), (((below_alloc (below_alloc HB.out (.cells #[.int .i64 0, .int .i64 0, .int .i64 0, .int .i64 0] 37)) (.cells #[.int .i64 0, .int .i64 0, .int .i64 0, .int .i64 0] 37)).cell (World.block_lt_of_cell? w _ XK2.out)).trans XK2.out), (((below_alloc (below_alloc HB.out (.cells #[.int .i64 0, .int .i64 0, .int .i64 0, .int .i64 0] 37)) (.cells #[.int .i64 0, .int .i64 0, .int .i64 0, .int .i64 0] 37)).cell (World.block_lt_of_cell? w _ XK3.out)).trans XK3.out)⟩ (fun hHeld => ?_)
         clear hK K
         refine norm_ (a' := ?_) ?_ ?_
         rotate_left
         ·show Act.put _ (some 10) _ = _
          simp only [Act.put, List.setIfInBounds_toArray, List.set_cons_zero, List.set_cons_succ, i64_w, i32_w]
          rfl
         exact norm_ (by simp only [putAll, Act.put, List.setIfInBounds_toArray, List.set_cons_zero, List.set_cons_succ]) (hCont (wd.heap.size, (wd.alloc (.cells #[.int .i64 0, .int .i64 0, .int .i64 0, .int .i64 0] 37)).heap.size) _ ⟨(below_alloc (below_alloc HB.out (.cells #[.int .i64 0, .int .i64 0, .int .i64 0, .int .i64 0] 37)) (.cells #[.int .i64 0, .int .i64 0, .int .i64 0, .int .i64 0] 37)), by simp; have := HB.out.size; omega, by simp; have := HB.out.size; omega, by simp, blk_alloc (heap_alloc_new wd (.cells #[.int .i64 0, .int .i64 0, .int .i64 0, .int .i64 0] 37)) (.cells #[.int .i64 0, .int .i64 0, .int .i64 0, .int .i64 0] 37), heap_alloc_new (wd.alloc (.cells #[.int .i64 0, .int .i64 0, .int .i64 0, .int .i64 0] 37)) (.cells #[.int .i64 0, .int .i64 0, .int .i64 0, .int .i64 0] 37)⟩)
        ·skip
         refine value_ (w1 := (wd.alloc (.cells #[.int .i64 0, .int .i64 0, .int .i64 0, .int .i64 0] 37))) (v := .pointer (some ⟨wd.heap.size, 0, none⟩)) (by rfl) rfl ?_ ?_
         ·go_simp
          try rfl
         refine hK.out _ _ ⟨(((below_alloc HB.out (.cells #[.int .i64 0, .int .i64 0, .int .i64 0, .int .i64 0] 37)).cell (World.block_lt_of_cell? w _ XI0.out)).trans XI0.out), (((below_alloc HB.out (.cells #[.int .i64 0, .int .i64 0, .int .i64 0, .int .i64 0] 37)).cell (World.block_lt_of_cell? w _ XI1.out)).trans XI1.out), (((below_alloc HB.out (.cells #[.int .i64 0, .int .i64 0, .int .i64 0, .int .i64 0] 37)).cell (World.block_lt_of_cell? w _ XI2.out)).trans XI2.out), (((below_alloc HB.out (.cells #[.int .i64 0, .int .i64 0, .int .i64 0, .int .i64 0] 37)).cell (World.block_lt_of_cell? w _ XI3.out)).trans XI3.out), (((below_alloc HB.out (.cells #[.int .i64 0, .int .i64 0, .int .i64 0, .int .i64 0] 37)).cell (World.block_lt_of_cell? w _ XK0.out)).trans XK0.out), (((below_alloc HB.out (.cells #[.int .i64 0, .int .i64 0, .int .i64 0, .int .i64 0] 37)).cell (World.block_lt_of_cell? w _ XK1.out)).trans XK1.out), (((below_alloc HB.out (.cells #[.int .i64 0, .int .i64 0, .int .i64 0, .int .i64 0] 37)).cell (World.block_lt_of_cell? w _ XK2.out)).trans XK2.out), (((below_alloc HB.out (.cells #[.int .i64 0, .int .i64 0, .int .i64 0, .int .i64 0] 37)).cell (World.block_lt_of_cell? w _ XK3.out)).trans XK3.out)⟩ (fun hHeld => ?_)
         clear hK K
         refine norm_ (a' := ?_) ?_ ?_
         rotate_left
         ·show Act.put _ (some 10) _ = _
          simp only [Act.put, List.setIfInBounds_toArray, List.set_cons_zero, List.set_cons_succ, i64_w, i32_w]
          rfl
         refine one_ (i := 8) (N := some 9) #[true, true, true, true, true, true, true, true, true, true, false, false] rfl rfl (one_of HT_.out (by kernel_rfl)) (by decide) (fun K hK => ?_)
         refine value_ (w1 := ((wd.alloc (.cells #[.int .i64 0, .int .i64 0, .int .i64 0, .int .i64 0] 37)).alloc (.cells #[.int .i64 0, .int .i64 0, .int .i64 0, .int .i64 0] 37))) (v := .pointer (some ⟨(wd.alloc (.cells #[.int .i64 0, .int .i64 0, .int .i64 0, .int .i64 0] 37)).heap.size, 0, none⟩)) (by rfl) rfl ?_ ?_
         ·go_simp
          try rfl
         refine hK.out _ _ ⟨(((below_alloc (below_alloc HB.out (.cells #[.int .i64 0, .int .i64 0, .int .i64 0, .int .i64 0] 37)) (.cells #[.int .i64 0, .int .i64 0, .int .i64 0, .int .i64 0] 37)).cell (World.block_lt_of_cell? w _ XI0.out)).trans XI0.out), (((below_alloc (below_alloc HB.out (.cells #[.int .i64 0, .int .i64 0, .int .i64 0, .int .i64 0] 37)) (.cells #[.int .i64 0, .int .i64 0, .int .i64 0, .int .i64 0] 37)).cell (World.block_lt_of_cell? w _ XI1.out)).trans XI1.out), (((below_alloc (below_alloc HB.out (.cells #[.int .i64 0, .int .i64 0, .int .i64 0, .int .i64 0] 37)) (.cells #[.int .i64 0, .int .i64 0, .int .i64 0, .int .i64 0] 37)).cell (World.block_lt_of_cell? w _ XI2.out)).trans XI2.out), (((below_alloc (below_alloc HB.out (.cells #[.int .i64 0, .int .i64 0, .int .i64 0, .int .i64 0] 37)) (.cells #[.int .i64 0, .int .i64 0, .int .i64 0, .int .i64 0] 37)).cell (World.block_lt_of_cell? w _ XI3.out)).trans XI3.out), (((below_alloc (below_alloc HB.out (.cells #[.int .i64 0, .int .i64 0, .int .i64 0, .int .i64 0] 37)) (.cells #[.int .i64 0, .int .i64 0, .int .i64 0, .int .i64 0] 37)).cell (World.block_lt_of_cell? w _ XK0.out)).trans XK0.out), (((below_alloc (below_alloc HB.out (.cells #[.int .i64 0, .int .i64 0, .int .i64 0, .int .i64 0] 37)) (.cells #[.int .i64 0, .int .i64 0, .int .i64 0, .int .i64 0] 37)).cell (World.block_lt_of_cell? w _ XK1.out)).trans XK1.out), (((below_alloc (below_alloc HB.out (.cells #[.int .i64 0, .int .i64 0, .int .i64 0, .int .i64 0] 37)) (.cells #[.int .i64 0, .int .i64 0, .int .i64 0, .int .i64 0] 37)).cell (World.block_lt_of_cell? w _ XK2.out)).trans XK2.out), (((below_alloc (below_alloc HB.out (.cells #[.int .i64 0, .int .i64 0, .int .i64 0, .int .i64 0] 37)) (.cells #[.int .i64 0, .int .i64 0, .int .i64 0, .int .i64 0] 37)).cell (World.block_lt_of_cell? w _ XK3.out)).trans XK3.out)⟩ (fun hHeld => ?_)
         clear hK K
         refine norm_ (a' := ?_) ?_ ?_
         rotate_left
         ·show Act.put _ (some 9) _ = _
          simp only [Act.put, List.setIfInBounds_toArray, List.set_cons_zero, List.set_cons_succ, i64_w, i32_w]
          rfl
         exact norm_ (by simp only [putAll, Act.put, List.setIfInBounds_toArray, List.set_cons_zero, List.set_cons_succ]) (hCont ((wd.alloc (.cells #[.int .i64 0, .int .i64 0, .int .i64 0, .int .i64 0] 37)).heap.size, wd.heap.size) _ ⟨(below_alloc (below_alloc HB.out (.cells #[.int .i64 0, .int .i64 0, .int .i64 0, .int .i64 0] 37)) (.cells #[.int .i64 0, .int .i64 0, .int .i64 0, .int .i64 0] 37)), by simp; have := HB.out.size; omega, by simp; have := HB.out.size; omega, by simp, heap_alloc_new (wd.alloc (.cells #[.int .i64 0, .int .i64 0, .int .i64 0, .int .i64 0] 37)) (.cells #[.int .i64 0, .int .i64 0, .int .i64 0, .int .i64 0] 37), blk_alloc (heap_alloc_new wd (.cells #[.int .i64 0, .int .i64 0, .int .i64 0, .int .i64 0] 37)) (.cells #[.int .i64 0, .int .i64 0, .int .i64 0, .int .i64 0] 37)⟩)
       rintro ⟨ga, gb⟩ wm ⟨hb, hga, hgb, hne, ha, hbb⟩
       have HB := Aside0.mk hb
       have BA := Aside0.mk ha
       have BB := Aside0.mk hbb
       clear hb ha hbb
       have hHeld : wm.cell? (ap.add (i * 4)) = some (.int .i64 (rd_T37 plan i).f0) ∧ wm.cell? ⟨(ap.add (i * 4)).block, (ap.add (i * 4)).off + 1, none⟩ = some (.int .i64 (rd_T37 plan i).f1) ∧ wm.cell? ⟨(ap.add (i * 4)).block, (ap.add (i * 4)).off + 2, none⟩ = some (.int .i64 (rd_T37 plan i).f2) ∧ wm.cell? ⟨(ap.add (i * 4)).block, (ap.add (i * 4)).off + 3, none⟩ = some (.int .i64 (rd_T37 plan i).f3) ∧ wm.cell? (ap.add (k * 4)) = some (.int .i64 (rd_T37 plan k).f0) ∧ wm.cell? ⟨(ap.add (k * 4)).block, (ap.add (k * 4)).off + 1, none⟩ = some (.int .i64 (rd_T37 plan k).f1) ∧ wm.cell? ⟨(ap.add (k * 4)).block, (ap.add (k * 4)).off + 2, none⟩ = some (.int .i64 (rd_T37 plan k).f2) ∧ wm.cell? ⟨(ap.add (k * 4)).block, (ap.add (k * 4)).off + 3, none⟩ = some (.int .i64 (rd_T37 plan k).f3) := ⟨((HB.out.cell (World.block_lt_of_cell? w _ XI0.out)).trans XI0.out), ((HB.out.cell (World.block_lt_of_cell? w _ XI1.out)).trans XI1.out), ((HB.out.cell (World.block_lt_of_cell? w _ XI2.out)).trans XI2.out), ((HB.out.cell (World.block_lt_of_cell? w _ XI3.out)).trans XI3.out), ((HB.out.cell (World.block_lt_of_cell? w _ XK0.out)).trans XK0.out), ((HB.out.cell (World.block_lt_of_cell? w _ XK1.out)).trans XK1.out), ((HB.out.cell (World.block_lt_of_cell? w _ XK2.out)).trans XK2.out), ((HB.out.cell (World.block_lt_of_cell? w _ XK3.out)).trans XK3.out)⟩
       refine norm_ (a' := ?_) ?_ ?_
       rotate_left
       ·simp only [putAll, Act.put, List.setIfInBounds_toArray, List.set_cons_zero, List.set_cons_succ]
        rfl
       refine one_ (i := 10) (N := none) #[true, true, true, true, true, true, true, true, true, true, true, false] rfl rfl (one_of HT_.out (by kernel_rfl)) (by decide) (fun K hK => ?_)
       refine skip_ (w1 := wm.setCells ga (0 * 4) (cells37 (rd_T37 plan i))) (by rfl) rfl (run_store_oper rfl ?_) ?_
       ·exact run_store_run (P := Try.prog) (w := wm) (g := ga) (o := 0 * 4) 37 (.agg #[.int .i64 (rd_T37 plan i).f0, .int .i64 (rd_T37 plan i).f1, .int .i64 (rd_T37 plan i).f2, .int .i64 (rd_T37 plan i).f3]) (cells37 (rd_T37 plan i)) BA.out rfl (by kernel_rfl) (by simp [cells37]) (by intro q hq; simp [cells37] at hq; rcases hq with rfl | rfl | rfl | rfl <;> rfl)
       have nBA_ := Aside0.mk (show (wm.setCells ga (0 * 4) (cells37 (rd_T37 plan i))).heap[ga]? = some (.cells #[.int .i64 (rd_T37 plan i).f0, .int .i64 (rd_T37 plan i).f1, .int .i64 (rd_T37 plan i).f2, .int .i64 (rd_T37 plan i).f3] 37) from flat_set (xs := [z37]) BA.out 0 (rd_T37 plan i) (by decide))
       have nBB_ := Aside0.mk ((setCells_far (w := wm) (g := ga) (cells37 (rd_T37 plan i)) (0 * 4) gb (hne.symm)).trans BB.out)
       have nHB_ := Aside0.mk (Frm.below (S := fun k_ => k_ = ga) (Frm.sets (S := fun k_ => k_ = ga) (g := ga) (Frm.refl _ wm) rfl (0 * 4) (cells37 (rd_T37 plan i))) HB.out (fun k_ hk_ => (show k_ = ga from hk_) ▸ hga))
       clear HB BA BB
       have HB := nHB_
       have BA := nBA_
       have BB := nBB_
       clear nHB_ nBA_ nBB_
       generalize wm.setCells ga (0 * 4) (cells37 (rd_T37 plan i)) = ws at HB BA BB ⊢
       refine hK.out _ _ ⟨((HB.out.cell (World.block_lt_of_cell? w _ XI0.out)).trans XI0.out), ((HB.out.cell (World.block_lt_of_cell? w _ XI1.out)).trans XI1.out), ((HB.out.cell (World.block_lt_of_cell? w _ XI2.out)).trans XI2.out), ((HB.out.cell (World.block_lt_of_cell? w _ XI3.out)).trans XI3.out), ((HB.out.cell (World.block_lt_of_cell? w _ XK0.out)).trans XK0.out), ((HB.out.cell (World.block_lt_of_cell? w _ XK1.out)).trans XK1.out), ((HB.out.cell (World.block_lt_of_cell? w _ XK2.out)).trans XK2.out), ((HB.out.cell (World.block_lt_of_cell? w _ XK3.out)).trans XK3.out)⟩ (fun hHeld => ?_)
       clear hK K
       refine last_ (i := 11) (N := none) #[true, true, true, true, true, true, true, true, true, true, true, true] rfl rfl (one_of HT_.out (by kernel_rfl)) (by decide) (fun K hK => ?_)
       refine skip_ (w1 := ws.setCells gb (0 * 4) (cells37 (rd_T37 plan k))) (by rfl) rfl (run_store_oper rfl ?_) ?_
       ·exact run_store_run (P := Try.prog) (w := ws) (g := gb) (o := 0 * 4) 37 (.agg #[.int .i64 (rd_T37 plan k).f0, .int .i64 (rd_T37 plan k).f1, .int .i64 (rd_T37 plan k).f2, .int .i64 (rd_T37 plan k).f3]) (cells37 (rd_T37 plan k)) BB.out rfl (by kernel_rfl) (by simp [cells37]) (by intro q hq; simp [cells37] at hq; rcases hq with rfl | rfl | rfl | rfl <;> rfl)
       have nBB_ := Aside0.mk (show (ws.setCells gb (0 * 4) (cells37 (rd_T37 plan k))).heap[gb]? = some (.cells #[.int .i64 (rd_T37 plan k).f0, .int .i64 (rd_T37 plan k).f1, .int .i64 (rd_T37 plan k).f2, .int .i64 (rd_T37 plan k).f3] 37) from flat_set (xs := [z37]) BB.out 0 (rd_T37 plan k) (by decide))
       have nBA_ := Aside0.mk ((setCells_far (w := ws) (g := gb) (cells37 (rd_T37 plan k)) (0 * 4) ga (hne)).trans BA.out)
       have nHB_ := Aside0.mk (Frm.below (S := fun k_ => k_ = gb) (Frm.sets (S := fun k_ => k_ = gb) (g := gb) (Frm.refl _ ws) rfl (0 * 4) (cells37 (rd_T37 plan k))) HB.out (fun k_ hk_ => (show k_ = gb from hk_) ▸ hgb))
       clear HB BB BA
       have HB := nHB_
       have BB := nBB_
       have BA := nBA_
       clear nHB_ nBB_ nBA_
       generalize ws.setCells gb (0 * 4) (cells37 (rd_T37 plan k)) = wu at HB BB BA ⊢
       refine hK.out _ _ ?_
       clear hK K
       refine done_ (done_of HT_.out (by kernel_rfl)) ?_
       have s0 := blk_cell BA.out 0
       have s1 := blk_cell BA.out 1
       have s2 := blk_cell BA.out 2
       have s3 := blk_cell BA.out 3
       have t0 := blk_cell BB.out 0
       have t1 := blk_cell BB.out 1
       have t2 := blk_cell BB.out 2
       have t3 := blk_cell BB.out 3
       simp only [List.getElem?_toArray, List.getElem?_cons_zero, List.getElem?_cons_succ] at s0 s1 s2 s3 t0 t1 t2 t3
       have za := blk_lt BA.out
       have zb := blk_lt BB.out
       by_cases e1_ : (rd_T37 plan i).f1 = (rd_T37 plan k).f1
       ·have e1 : ((rd_T37 plan i).f1 == (rd_T37 plan k).f1) = true := beq_iff_eq.mpr e1_
        clear e1_
        have HV := Aside0.mk (show rvalV l win plan = false from rv_bad hlt hkt (by unfold badB; rw [e1]; rfl))
        go_wp2
        go_ret
        exact ⟨by rw [HV.out]; first | rfl | (simp; done), HB.out⟩
       ·have e1 : ((rd_T37 plan i).f1 == (rd_T37 plan k).f1) = false := beq_eq_false_iff_ne.mpr e1_
        clear e1_
        by_cases o1_ : (rd_T37 plan i).f2 < (rd_T37 plan k).f3
        ·have o1 : decide ((rd_T37 plan i).f2 < (rd_T37 plan k).f3) = true := decide_eq_true o1_
         clear o1_
         by_cases o2_ : (rd_T37 plan k).f2 < (rd_T37 plan i).f3
         ·have o2 : decide ((rd_T37 plan k).f2 < (rd_T37 plan i).f3) = true := decide_eq_true o2_
          clear o2_
          by_cases e2 : (rd_T37 plan i).f0 = (rd_T37 plan k).f0
          ·have HV := Aside0.mk (show rvalV l win plan = false from rv_bad hlt hkt (by unfold badB; rw [beq_iff_eq.mpr e2]; simp [overB, o1, o2]))
           have e2b : ((rd_T37 plan i).f0 == (rd_T37 plan k).f0) = true := beq_iff_eq.mpr e2
           clear e2
           go_wp2_with fail
           clear s0 s1 s2 s3 t0 t1 t2 t3 za zb
           have hb := below_drew (Below.refl wu.heap.size wu)
           have nHB_ := Aside0.mk (below_step HB.out hb)
           have nBA_ := Aside0.mk (blk_below BA.out hb)
           have nBB_ := Aside0.mk (blk_below BB.out hb)
           clear hb HB BA BB
           have HB := nHB_
           have BA := nBA_
           have BB := nBB_
           clear nHB_ nBA_ nBB_
           refine start_ (n := 25) (S := fun w' => w'.cell? ⟨ga, 0, none⟩ = some (.int .i64 (rd_T37 plan i).f0) ∧ w'.cell? ⟨ga, 1, none⟩ = some (.int .i64 (rd_T37 plan i).f1) ∧ w'.cell? ⟨gb, 0, none⟩ = some (.int .i64 (rd_T37 plan k).f0) ∧ w'.cell? ⟨gb, 1, none⟩ = some (.int .i64 (rd_T37 plan k).f1)) (ds := []) #[false, false, false, false, false, false, false, false, false, false, false, false, false, false, false, false, false, false, false, false, false, false, false, false, false] (by kernel_rfl) rfl rfl ⟨((blk_cell BA.out 0).trans rfl), ((blk_cell BA.out 1).trans rfl), ((blk_cell BB.out 0).trans rfl), ((blk_cell BB.out 1).trans rfl)⟩ (fun hHeld => ?_)
           refine with_tabW X20.tab15 X20.bits15 (fun HT_ HW_ => ?_)
           generalize wu.drew = we at HB BA BB hHeld ⊢
           refine pure_ (i := 0) (N := some 61) (v := ?_) (a' := ?_) #[true, false, false, false, false, false, false, false, false, false, false, false, false, false, false, false, false, false, false, false, false, false, false, false, false] rfl rfl (any_of HT_.out (by kernel_rfl)) (fun _ _ _ h => h) (Or.inl ⟨by rfl, ?_⟩) ?_ ?_
           rotate_left
           ·intro w'
            go_simp
            with_reducible rfl
           rotate_left
           ·simp only [Act.put, List.setIfInBounds_toArray, List.set_cons_zero, List.set_cons_succ, i64_w, i32_w]
            rfl
           refine pure_ (i := 1) (N := some 62) (v := ?_) (a' := ?_) #[true, true, false, false, false, false, false, false, false, false, false, false, false, false, false, false, false, false, false, false, false, false, false, false, false] rfl rfl (any_of HT_.out (by kernel_rfl)) (fun _ _ _ h => h) (Or.inl ⟨by rfl, ?_⟩) ?_ ?_
           rotate_left
           ·intro w'
            go_simp
            with_reducible rfl
           rotate_left
           ·simp only [Act.put, List.setIfInBounds_toArray, List.set_cons_zero, List.set_cons_succ, i64_w, i32_w]
            rfl
           refine pure_ (i := 2) (N := some 63) (v := ?_) (a' := ?_) #[true, true, true, false, false, false, false, false, false, false, false, false, false, false, false, false, false, false, false, false, false, false, false, false, false] rfl rfl (any_of HT_.out (by kernel_rfl)) (fun _ _ _ h => h) (Or.inl ⟨by rfl, ?_⟩) ?_ ?_
           rotate_left
           ·intro w'
            go_simp
            with_reducible rfl
           rotate_left
           ·simp only [Act.put, List.setIfInBounds_toArray, List.set_cons_zero, List.set_cons_succ, i64_w, i32_w]
            rfl
           refine pure_ (i := 4) (N := some 65) (v := ?_) (a' := ?_) #[true, true, true, false, true, false, false, false, false, false, false, false, false, false, false, false, false, false, false, false, false, false, false, false, false] rfl rfl (any_of HT_.out (by kernel_rfl)) (fun _ _ _ h => h) (Or.inl ⟨by rfl, ?_⟩) ?_ ?_
           rotate_left
           ·intro w'
            go_simp
            with_reducible rfl
           rotate_left
           ·simp only [Act.put, List.setIfInBounds_toArray, List.set_cons_zero, List.set_cons_succ, i64_w, i32_w]
            rfl
           refine take_ (i := 3) (N := some 64) (v := ?_) (a' := ?_) #[true, true, true, true, true, false, false, false, false, false, false, false, false, false, false, false, false, false, false, false, false, false, false, false, false] rfl rfl (take_ofW HT_.out HW_.out (by kernel_rfl)) (fun _ _ _ h => h) (Or.inl ⟨by rfl, ?_⟩) hHeld ?_ ?_
           rotate_left
           ·rintro w' ⟨s0, s1, s2, s3⟩
            go_simp
            with_reducible rfl
           rotate_left
           ·simp only [Act.put, List.setIfInBounds_toArray, List.set_cons_zero, List.set_cons_succ, i64_w, i32_w]
            rfl
           refine take_ (i := 5) (N := some 66) (v := ?_) (a' := ?_) #[true, true, true, true, true, true, false, false, false, false, false, false, false, false, false, false, false, false, false, false, false, false, false, false, false] rfl rfl (take_ofW HT_.out HW_.out (by kernel_rfl)) (fun _ _ _ h => h) (Or.inl ⟨by rfl, ?_⟩) hHeld ?_ ?_
           rotate_left
           ·rintro w' ⟨s0, s1, s2, s3⟩
            go_simp
            with_reducible rfl
           rotate_left
           ·simp only [Act.put, List.setIfInBounds_toArray, List.set_cons_zero, List.set_cons_succ, i64_w, i32_w]
            rfl
           refine pure_ (i := 6) (N := some 67) (v := ?_) (a' := ?_) #[true, true, true, true, true, true, true, false, false, false, false, false, false, false, false, false, false, false, false, false, false, false, false, false, false] rfl rfl (any_of HT_.out (by kernel_rfl)) (fun _ _ _ h => h) (Or.inl ⟨by rfl, ?_⟩) ?_ ?_
           rotate_left
           ·intro w'
            go_simp
            with_reducible rfl
           rotate_left
           ·simp only [Act.put, List.setIfInBounds_toArray, List.set_cons_zero, List.set_cons_succ, i64_w, i32_w]
            rfl
           refine pure_ (i := 7) (N := some 68) (v := ?_) (a' := ?_) #[true, true, true, true, true, true, true, true, false, false, false, false, false, false, false, false, false, false, false, false, false, false, false, false, false] rfl rfl (any_of HT_.out (by kernel_rfl)) (fun _ _ _ h => h) (Or.inl ⟨by rfl, ?_⟩) ?_ ?_
           rotate_left
           ·intro w'
            go_simp
            with_reducible rfl
           rotate_left
           ·simp only [Act.put, List.setIfInBounds_toArray, List.set_cons_zero, List.set_cons_succ, i64_w, i32_w]
            rfl
           refine pure_ (i := 8) (N := some 69) (v := undef) (a' := ?_) #[true, true, true, true, true, true, true, true, true, false, false, false, false, false, false, false, false, false, false, false, false, false, false, false, false] rfl rfl (any_of HT_.out (by kernel_rfl)) (fun _ _ _ h => h) (Or.inr ⟨by rfl, rfl⟩) ?_ ?_
           rotate_left
           ·simp only [Act.put, List.setIfInBounds_toArray, List.set_cons_zero, List.set_cons_succ, i64_w, i32_w]
            rfl
           refine pure_ (i := 9) (N := some 70) (v := undef) (a' := ?_) #[true, true, true, true, true, true, true, true, true, true, false, false, false, false, false, false, false, false, false, false, false, false, false, false, false] rfl rfl (any_of HT_.out (by kernel_rfl)) (fun _ _ _ h => h) (Or.inr ⟨by rfl, rfl⟩) ?_ ?_
           rotate_left
           ·simp only [Act.put, List.setIfInBounds_toArray, List.set_cons_zero, List.set_cons_succ, i64_w, i32_w]
            rfl
           refine pure_ (i := 10) (N := some 71) (v := undef) (a' := ?_) #[true, true, true, true, true, true, true, true, true, true, true, false, false, false, false, false, false, false, false, false, false, false, false, false, false] rfl rfl (any_of HT_.out (by kernel_rfl)) (fun _ _ _ h => h) (Or.inr ⟨by rfl, rfl⟩) ?_ ?_
           rotate_left
           ·simp only [Act.put, List.setIfInBounds_toArray, List.set_cons_zero, List.set_cons_succ, i64_w, i32_w]
            rfl
           refine pure_ (i := 11) (N := some 72) (v := undef) (a' := ?_) #[true, true, true, true, true, true, true, true, true, true, true, true, false, false, false, false, false, false, false, false, false, false, false, false, false] rfl rfl (any_of HT_.out (by kernel_rfl)) (fun _ _ _ h => h) (Or.inr ⟨by rfl, rfl⟩) ?_ ?_
           rotate_left
           ·simp only [Act.put, List.setIfInBounds_toArray, List.set_cons_zero, List.set_cons_succ, i64_w, i32_w]
            rfl
           refine pure_ (i := 12) (N := some 73) (v := undef) (a' := ?_) #[true, true, true, true, true, true, true, true, true, true, true, true, true, false, false, false, false, false, false, false, false, false, false, false, false] rfl rfl (any_of HT_.out (by kernel_rfl)) (fun _ _ _ h => h) (Or.inr ⟨by rfl, rfl⟩) ?_ ?_
           rotate_left
           ·simp only [Act.put, List.setIfInBounds_toArray, List.set_cons_zero, List.set_cons_succ, i64_w, i32_w]
            rfl
           refine pure_ (i := 13) (N := some 74) (v := undef) (a' := ?_) #[true, true, true, true, true, true, true, true, true, true, true, true, true, true, false, false, false, false, false, false, false, false, false, false, false] rfl rfl (any_of HT_.out (by kernel_rfl)) (fun _ _ _ h => h) (Or.inr ⟨by rfl, rfl⟩) ?_ ?_
           rotate_left
           ·simp only [Act.put, List.setIfInBounds_toArray, List.set_cons_zero, List.set_cons_succ, i64_w, i32_w]
            rfl
           refine pure_ (i := 14) (N := some 75) (v := undef) (a' := ?_) #[true, true, true, true, true, true, true, true, true, true, true, true, true, true, true, false, false, false, false, false, false, false, false, false, false] rfl rfl (any_of HT_.out (by kernel_rfl)) (fun _ _ _ h => h) (Or.inr ⟨by rfl, rfl⟩) ?_ ?_
           rotate_left
           ·simp only [Act.put, List.setIfInBounds_toArray, List.set_cons_zero, List.set_cons_succ, i64_w, i32_w]
            rfl
           refine pure_ (i := 15) (N := some 76) (v := undef) (a' := ?_) #[true, true, true, true, true, true, true, true, true, true, true, true, true, true, true, true, false, false, false, false, false, false, false, false, false] rfl rfl (any_of HT_.out (by kernel_rfl)) (fun _ _ _ h => h) (Or.inr ⟨by rfl, rfl⟩) ?_ ?_
           rotate_left
           ·simp only [Act.put, List.setIfInBounds_toArray, List.set_cons_zero, List.set_cons_succ, i64_w, i32_w]
            rfl
           refine pure_ (i := 16) (N := some 77) (v := undef) (a' := ?_) #[true, true, true, true, true, true, true, true, true, true, true, true, true, true, true, true, true, false, false, false, false, false, false, false, false] rfl rfl (any_of HT_.out (by kernel_rfl)) (fun _ _ _ h => h) (Or.inr ⟨by rfl, rfl⟩) ?_ ?_
           rotate_left
           ·simp only [Act.put, List.setIfInBounds_toArray, List.set_cons_zero, List.set_cons_succ, i64_w, i32_w]
            rfl
           refine pure_ (i := 17) (N := some 78) (v := undef) (a' := ?_) #[true, true, true, true, true, true, true, true, true, true, true, true, true, true, true, true, true, true, false, false, false, false, false, false, false] rfl rfl (any_of HT_.out (by kernel_rfl)) (fun _ _ _ h => h) (Or.inr ⟨by rfl, rfl⟩) ?_ ?_
           rotate_left
           ·simp only [Act.put, List.setIfInBounds_toArray, List.set_cons_zero, List.set_cons_succ, i64_w, i32_w]
            rfl
           refine pure_ (i := 18) (N := some 79) (v := undef) (a' := ?_) #[true, true, true, true, true, true, true, true, true, true, true, true, true, true, true, true, true, true, true, false, false, false, false, false, false] rfl rfl (any_of HT_.out (by kernel_rfl)) (fun _ _ _ h => h) (Or.inr ⟨by rfl, rfl⟩) ?_ ?_
           rotate_left
           ·simp only [Act.put, List.setIfInBounds_toArray, List.set_cons_zero, List.set_cons_succ, i64_w, i32_w]
            rfl
           refine pure_ (i := 19) (N := some 80) (v := undef) (a' := ?_) #[true, true, true, true, true, true, true, true, true, true, true, true, true, true, true, true, true, true, true, true, false, false, false, false, false] rfl rfl (any_of HT_.out (by kernel_rfl)) (fun _ _ _ h => h) (Or.inr ⟨by rfl, rfl⟩) ?_ ?_
           rotate_left
           ·simp only [Act.put, List.setIfInBounds_toArray, List.set_cons_zero, List.set_cons_succ, i64_w, i32_w]
            rfl
           refine pure_ (i := 20) (N := some 81) (v := undef) (a' := ?_) #[true, true, true, true, true, true, true, true, true, true, true, true, true, true, true, true, true, true, true, true, true, false, false, false, false] rfl rfl (any_of HT_.out (by kernel_rfl)) (fun _ _ _ h => h) (Or.inr ⟨by rfl, rfl⟩) ?_ ?_
           rotate_left
           ·simp only [Act.put, List.setIfInBounds_toArray, List.set_cons_zero, List.set_cons_succ, i64_w, i32_w]
            rfl
           refine pure_ (i := 21) (N := some 82) (v := undef) (a' := ?_) #[true, true, true, true, true, true, true, true, true, true, true, true, true, true, true, true, true, true, true, true, true, true, false, false, false] rfl rfl (any_of HT_.out (by kernel_rfl)) (fun _ _ _ h => h) (Or.inr ⟨by rfl, rfl⟩) ?_ ?_
           rotate_left
           ·simp only [Act.put, List.setIfInBounds_toArray, List.set_cons_zero, List.set_cons_succ, i64_w, i32_w]
            rfl
           refine pure_ (i := 22) (N := some 83) (v := undef) (a' := ?_) #[true, true, true, true, true, true, true, true, true, true, true, true, true, true, true, true, true, true, true, true, true, true, true, false, false] rfl rfl (any_of HT_.out (by kernel_rfl)) (fun _ _ _ h => h) (Or.inr ⟨by rfl, rfl⟩) ?_ ?_
           rotate_left
           ·simp only [Act.put, List.setIfInBounds_toArray, List.set_cons_zero, List.set_cons_succ, i64_w, i32_w]
            rfl
           refine pure_ (i := 23) (N := some 84) (v := ?_) (a' := ?_) #[true, true, true, true, true, true, true, true, true, true, true, true, true, true, true, true, true, true, true, true, true, true, true, true, false] rfl rfl (any_of HT_.out (by kernel_rfl)) (fun _ _ _ h => h) (Or.inl ⟨by rfl, ?_⟩) ?_ ?_
           rotate_left
           ·intro w'
            go_simp
            with_reducible rfl
           rotate_left
           ·simp only [Act.put, List.setIfInBounds_toArray, List.set_cons_zero, List.set_cons_succ, i64_w, i32_w]
            rfl
           refine pure_ (i := 24) (N := some 85) (v := ?_) (a' := ?_) #[true, true, true, true, true, true, true, true, true, true, true, true, true, true, true, true, true, true, true, true, true, true, true, true, true] rfl rfl (any_of HT_.out (by kernel_rfl)) (fun _ _ _ h => h) (Or.inl ⟨by rfl, ?_⟩) ?_ ?_
           rotate_left
           ·intro w'
            go_simp
            with_reducible rfl
           rotate_left
           ·simp only [Act.put, List.setIfInBounds_toArray, List.set_cons_zero, List.set_cons_succ, i64_w, i32_w]
            rfl
           refine done_ (done_of HT_.out (by kernel_rfl)) ?_
           go_wp2
           go_ret
           exact ⟨by rw [HV.out]; first | rfl | (simp; done), HB.out⟩
          ·have e2b : ((rd_T37 plan i).f0 == (rd_T37 plan k).f0) = false := beq_eq_false_iff_ne.mpr e2
           clear e2
           have hra := fits_in HF.out
           have hrb := fits_in (rv_in HRV.out k hkt)
           have RVA := Aside0.mk (show taskV l (rd_T37 plan i).f1 = ((runAt l (rd_T37 plan i).f1) : Int) from if_pos hra)
           have RVB := Aside0.mk (show taskV l (rd_T37 plan k).f1 = ((runAt l (rd_T37 plan k).f1) : Int) from if_pos hrb)
           obtain ⟨ai, A5, c5, eA, y0, y1, y2, y3, h5c, h5⟩ := at_T34 HL.out ((runAt l (rd_T37 plan i).f1) : Int) (by omega) (by omega)
           subst eA
           rw [Int.toNat_natCast] at y0 y1 y2 y3
           have YA0 := Aside0.mk y0
           have YA1 := Aside0.mk y1
           have YA2 := Aside0.mk y2
           have YA3 := Aside0.mk y3
           have H5 := Aside0.mk h5
           have H5C := Aside0.mk h5c
           clear y0 y1 y2 y3 h5 h5c
           obtain ⟨ai_, A6, c6, eA, y0, y1, y2, y3, h6c, h6⟩ := at_T34 HL.out ((runAt l (rd_T37 plan k).f1) : Int) (by omega) (by omega)
           injection eA with eA
           subst eA
           rw [Int.toNat_natCast] at y0 y1 y2 y3
           have YB0 := Aside0.mk y0
           have YB1 := Aside0.mk y1
           have YB2 := Aside0.mk y2
           have YB3 := Aside0.mk y3
           have H6 := Aside0.mk h6
           have H6C := Aside0.mk h6c
           clear y0 y1 y2 y3 h6 h6c
           go_wp2_with fail
           clear s0 s1 s2 s3 t0 t1 t2 t3 za zb
           have hb := below_drew (Below.refl wu.heap.size wu)
           have nHB_ := Aside0.mk (below_step HB.out hb)
           have nBA_ := Aside0.mk (blk_below BA.out hb)
           have nBB_ := Aside0.mk (blk_below BB.out hb)
           clear hb HB BA BB
           have HB := nHB_
           have BA := nBA_
           have BB := nBB_
           clear nHB_ nBA_ nBB_
           refine start_ (n := 25) (S := fun w' => w'.cell? ⟨ga, 0, none⟩ = some (.int .i64 (rd_T37 plan i).f0) ∧ w'.cell? ⟨ga, 1, none⟩ = some (.int .i64 (rd_T37 plan i).f1) ∧ w'.cell? ⟨gb, 0, none⟩ = some (.int .i64 (rd_T37 plan k).f0) ∧ w'.cell? ⟨gb, 1, none⟩ = some (.int .i64 (rd_T37 plan k).f1) ∧ w'.cell? (ai.add ((runAt l (rd_T37 plan i).f1) * 4)) = some (.int .i64 (rd_T34 l (runAt l (rd_T37 plan i).f1 : Nat)).f0) ∧ w'.cell? ⟨(ai.add ((runAt l (rd_T37 plan i).f1) * 4)).block, (ai.add ((runAt l (rd_T37 plan i).f1) * 4)).off + 1, none⟩ = some (.int .i64 (rd_T34 l (runAt l (rd_T37 plan i).f1 : Nat)).f1) ∧ w'.cell? ⟨(ai.add ((runAt l (rd_T37 plan i).f1) * 4)).block, (ai.add ((runAt l (rd_T37 plan i).f1) * 4)).off + 2, none⟩ = some (.bool (rd_T34 l (runAt l (rd_T37 plan i).f1 : Nat)).f2) ∧ w'.cell? ⟨(ai.add ((runAt l (rd_T37 plan i).f1) * 4)).block, (ai.add ((runAt l (rd_T37 plan i).f1) * 4)).off + 3, none⟩ = some (.slice A5 (rd_T34 l (runAt l (rd_T37 plan i).f1 : Nat)).f3.length c5) ∧ w'.cell? (ai.add ((runAt l (rd_T37 plan k).f1) * 4)) = some (.int .i64 (rd_T34 l (runAt l (rd_T37 plan k).f1 : Nat)).f0) ∧ w'.cell? ⟨(ai.add ((runAt l (rd_T37 plan k).f1) * 4)).block, (ai.add ((runAt l (rd_T37 plan k).f1) * 4)).off + 1, none⟩ = some (.int .i64 (rd_T34 l (runAt l (rd_T37 plan k).f1 : Nat)).f1) ∧ w'.cell? ⟨(ai.add ((runAt l (rd_T37 plan k).f1) * 4)).block, (ai.add ((runAt l (rd_T37 plan k).f1) * 4)).off + 2, none⟩ = some (.bool (rd_T34 l (runAt l (rd_T37 plan k).f1 : Nat)).f2) ∧ w'.cell? ⟨(ai.add ((runAt l (rd_T37 plan k).f1) * 4)).block, (ai.add ((runAt l (rd_T37 plan k).f1) * 4)).off + 3, none⟩ = some (.slice A6 (rd_T34 l (runAt l (rd_T37 plan k).f1 : Nat)).f3.length c6)) (ds := []) #[false, false, false, false, false, false, false, false, false, false, false, false, false, false, false, false, false, false, false, false, false, false, false, false, false] (by kernel_rfl) rfl rfl ⟨((blk_cell BA.out 0).trans rfl), ((blk_cell BA.out 1).trans rfl), ((blk_cell BB.out 0).trans rfl), ((blk_cell BB.out 1).trans rfl), ((HB.out.cell (World.block_lt_of_cell? w _ YA0.out)).trans YA0.out), ((HB.out.cell (World.block_lt_of_cell? w _ YA1.out)).trans YA1.out), ((HB.out.cell (World.block_lt_of_cell? w _ YA2.out)).trans YA2.out), ((HB.out.cell (World.block_lt_of_cell? w _ YA3.out)).trans YA3.out), ((HB.out.cell (World.block_lt_of_cell? w _ YB0.out)).trans YB0.out), ((HB.out.cell (World.block_lt_of_cell? w _ YB1.out)).trans YB1.out), ((HB.out.cell (World.block_lt_of_cell? w _ YB2.out)).trans YB2.out), ((HB.out.cell (World.block_lt_of_cell? w _ YB3.out)).trans YB3.out)⟩ (fun hHeld => ?_)
           refine with_tabW X20.tab15 X20.bits15 (fun HT_ HW_ => ?_)
           generalize wu.drew = we at HB BA BB hHeld ⊢
           refine pure_ (i := 0) (N := some 61) (v := ?_) (a' := ?_) #[true, false, false, false, false, false, false, false, false, false, false, false, false, false, false, false, false, false, false, false, false, false, false, false, false] rfl rfl (any_of HT_.out (by kernel_rfl)) (fun _ _ _ h => h) (Or.inl ⟨by rfl, ?_⟩) ?_ ?_
           rotate_left
           ·intro w'
            go_simp
            with_reducible rfl
           rotate_left
           ·simp only [Act.put, List.setIfInBounds_toArray, List.set_cons_zero, List.set_cons_succ, i64_w, i32_w]
            rfl
           refine pure_ (i := 1) (N := some 62) (v := ?_) (a' := ?_) #[true, true, false, false, false, false, false, false, false, false, false, false, false, false, false, false, false, false, false, false, false, false, false, false, false] rfl rfl (any_of HT_.out (by kernel_rfl)) (fun _ _ _ h => h) (Or.inl ⟨by rfl, ?_⟩) ?_ ?_
           rotate_left
           ·intro w'
            go_simp
            with_reducible rfl
           rotate_left
           ·simp only [Act.put, List.setIfInBounds_toArray, List.set_cons_zero, List.set_cons_succ, i64_w, i32_w]
            rfl
           refine pure_ (i := 2) (N := some 63) (v := ?_) (a' := ?_) #[true, true, true, false, false, false, false, false, false, false, false, false, false, false, false, false, false, false, false, false, false, false, false, false, false] rfl rfl (any_of HT_.out (by kernel_rfl)) (fun _ _ _ h => h) (Or.inl ⟨by rfl, ?_⟩) ?_ ?_
           rotate_left
           ·intro w'
            go_simp
            with_reducible rfl
           rotate_left
           ·simp only [Act.put, List.setIfInBounds_toArray, List.set_cons_zero, List.set_cons_succ, i64_w, i32_w]
            rfl
           refine pure_ (i := 4) (N := some 65) (v := ?_) (a' := ?_) #[true, true, true, false, true, false, false, false, false, false, false, false, false, false, false, false, false, false, false, false, false, false, false, false, false] rfl rfl (any_of HT_.out (by kernel_rfl)) (fun _ _ _ h => h) (Or.inl ⟨by rfl, ?_⟩) ?_ ?_
           rotate_left
           ·intro w'
            go_simp
            with_reducible rfl
           rotate_left
           ·simp only [Act.put, List.setIfInBounds_toArray, List.set_cons_zero, List.set_cons_succ, i64_w, i32_w]
            rfl
           refine take_ (i := 3) (N := some 64) (v := ?_) (a' := ?_) #[true, true, true, true, true, false, false, false, false, false, false, false, false, false, false, false, false, false, false, false, false, false, false, false, false] rfl rfl (take_ofW HT_.out HW_.out (by kernel_rfl)) (fun _ _ _ h => h) (Or.inl ⟨by rfl, ?_⟩) hHeld ?_ ?_
           rotate_left
           ·rintro w' ⟨s0, s1, s2, s3, s4, s5, s6, s7, s8, s9, s10, s11⟩
            go_simp
            with_reducible rfl
           rotate_left
           ·simp only [Act.put, List.setIfInBounds_toArray, List.set_cons_zero, List.set_cons_succ, i64_w, i32_w]
            rfl
           refine take_ (i := 5) (N := some 66) (v := ?_) (a' := ?_) #[true, true, true, true, true, true, false, false, false, false, false, false, false, false, false, false, false, false, false, false, false, false, false, false, false] rfl rfl (take_ofW HT_.out HW_.out (by kernel_rfl)) (fun _ _ _ h => h) (Or.inl ⟨by rfl, ?_⟩) hHeld ?_ ?_
           rotate_left
           ·rintro w' ⟨s0, s1, s2, s3, s4, s5, s6, s7, s8, s9, s10, s11⟩
            go_simp
            with_reducible rfl
           rotate_left
           ·simp only [Act.put, List.setIfInBounds_toArray, List.set_cons_zero, List.set_cons_succ, i64_w, i32_w]
            rfl
           refine pure_ (i := 6) (N := some 67) (v := ?_) (a' := ?_) #[true, true, true, true, true, true, true, false, false, false, false, false, false, false, false, false, false, false, false, false, false, false, false, false, false] rfl rfl (any_of HT_.out (by kernel_rfl)) (fun _ _ _ h => h) (Or.inl ⟨by rfl, ?_⟩) ?_ ?_
           rotate_left
           ·intro w'
            go_simp
            with_reducible rfl
           rotate_left
           ·simp only [Act.put, List.setIfInBounds_toArray, List.set_cons_zero, List.set_cons_succ, i64_w, i32_w]
            rfl
           refine pure_ (i := 7) (N := some 68) (v := ?_) (a' := ?_) #[true, true, true, true, true, true, true, true, false, false, false, false, false, false, false, false, false, false, false, false, false, false, false, false, false] rfl rfl (any_of HT_.out (by kernel_rfl)) (fun _ _ _ h => h) (Or.inl ⟨by rfl, ?_⟩) ?_ ?_
           rotate_left
           ·intro w'
            go_simp
            with_reducible rfl
           rotate_left
           ·simp only [Act.put, List.setIfInBounds_toArray, List.set_cons_zero, List.set_cons_succ, i64_w, i32_w]
            rfl
           refine pure_ (i := 8) (N := some 69) (v := ?_) (a' := ?_) #[true, true, true, true, true, true, true, true, true, false, false, false, false, false, false, false, false, false, false, false, false, false, false, false, false] rfl rfl (any_of HT_.out (by kernel_rfl)) (fun _ _ _ h => h) (Or.inl ⟨by rfl, ?_⟩) ?_ ?_
           rotate_left
           ·intro w'
            go_simp
            with_reducible rfl
           rotate_left
           ·simp only [Act.put, List.setIfInBounds_toArray, List.set_cons_zero, List.set_cons_succ, i64_w, i32_w]
            rfl
           refine pure_ (i := 9) (N := some 70) (v := ?_) (a' := ?_) #[true, true, true, true, true, true, true, true, true, true, false, false, false, false, false, false, false, false, false, false, false, false, false, false, false] rfl rfl (any_of HT_.out (by kernel_rfl)) (fun _ _ _ h => h) (Or.inl ⟨by rfl, ?_⟩) ?_ ?_
           rotate_left
           ·intro w'
            go_simp
            with_reducible rfl
           rotate_left
           ·simp only [Act.put, List.setIfInBounds_toArray, List.set_cons_zero, List.set_cons_succ, i64_w, i32_w]
            rfl
           refine pure_ (i := 10) (N := some 71) (v := ?_) (a' := ?_) #[true, true, true, true, true, true, true, true, true, true, true, false, false, false, false, false, false, false, false, false, false, false, false, false, false] rfl rfl (any_of HT_.out (by kernel_rfl)) (fun _ _ _ h => h) (Or.inl ⟨by rfl, ?_⟩) ?_ ?_
           rotate_left
           ·intro w'
            go_simp
            with_reducible rfl
           rotate_left
           ·simp only [Act.put, List.setIfInBounds_toArray, List.set_cons_zero, List.set_cons_succ, i64_w, i32_w]
            rfl
           refine pure_ (i := 15) (N := some 76) (v := ?_) (a' := ?_) #[true, true, true, true, true, true, true, true, true, true, true, false, false, false, false, true, false, false, false, false, false, false, false, false, false] rfl rfl (any_of HT_.out (by kernel_rfl)) (fun _ _ _ h => h) (Or.inl ⟨by rfl, ?_⟩) ?_ ?_
           rotate_left
           ·intro w'
            go_simp
            with_reducible rfl
           rotate_left
           ·simp only [Act.put, List.setIfInBounds_toArray, List.set_cons_zero, List.set_cons_succ, i64_w, i32_w]
            rfl
           refine pure_ (i := 16) (N := some 77) (v := ?_) (a' := ?_) #[true, true, true, true, true, true, true, true, true, true, true, false, false, false, false, true, true, false, false, false, false, false, false, false, false] rfl rfl (any_of HT_.out (by kernel_rfl)) (fun _ _ _ h => h) (Or.inl ⟨by rfl, ?_⟩) ?_ ?_
           rotate_left
           ·intro w'
            go_simp
            with_reducible rfl
           rotate_left
           ·simp only [Act.put, List.setIfInBounds_toArray, List.set_cons_zero, List.set_cons_succ, i64_w, i32_w]
            rfl
           refine pure_ (i := 17) (N := some 78) (v := ?_) (a' := ?_) #[true, true, true, true, true, true, true, true, true, true, true, false, false, false, false, true, true, true, false, false, false, false, false, false, false] rfl rfl (any_of HT_.out (by kernel_rfl)) (fun _ _ _ h => h) (Or.inl ⟨by rfl, ?_⟩) ?_ ?_
           rotate_left
           ·intro w'
            go_simp
            with_reducible rfl
           rotate_left
           ·simp only [Act.put, List.setIfInBounds_toArray, List.set_cons_zero, List.set_cons_succ, i64_w, i32_w]
            rfl
           refine take_ (i := 11) (N := some 72) (v := ?_) (a' := ?_) #[true, true, true, true, true, true, true, true, true, true, true, true, false, false, false, true, true, true, false, false, false, false, false, false, false] rfl rfl (take_ofW HT_.out HW_.out (by kernel_rfl)) (fun _ _ _ h => h) (Or.inl ⟨by rfl, ?_⟩) hHeld ?_ ?_
           rotate_left
           ·rintro w' ⟨s0, s1, s2, s3, s4, s5, s6, s7, s8, s9, s10, s11⟩
            go_simp
            with_reducible rfl
           rotate_left
           ·simp only [Act.put, List.setIfInBounds_toArray, List.set_cons_zero, List.set_cons_succ, i64_w, i32_w]
            rfl
           refine take_ (i := 18) (N := some 79) (v := ?_) (a' := ?_) #[true, true, true, true, true, true, true, true, true, true, true, true, false, false, false, true, true, true, true, false, false, false, false, false, false] rfl rfl (take_ofW HT_.out HW_.out (by kernel_rfl)) (fun _ _ _ h => h) (Or.inl ⟨by rfl, ?_⟩) hHeld ?_ ?_
           rotate_left
           ·rintro w' ⟨s0, s1, s2, s3, s4, s5, s6, s7, s8, s9, s10, s11⟩
            go_simp
            with_reducible rfl
           rotate_left
           ·simp only [Act.put, List.setIfInBounds_toArray, List.set_cons_zero, List.set_cons_succ, i64_w, i32_w]
            rfl
           refine one_ (i := 12) (N := some 73) #[true, true, true, true, true, true, true, true, true, true, true, true, true, false, false, true, true, true, true, false, false, false, false, false, false] rfl rfl (one_of HT_.out (by kernel_rfl)) (by decide) (fun K hK => ?_)
           refine goes_ Try.func33 (by kernel_rfl) rfl #[.slice (some ai) l.length cl, .int .i64 (rd_T37 plan i).f1] (by rfl) rfl rfl (by simp only [List.map_toArray, List.map_cons, List.map_nil]; rfl) ?_
           with_reducible refine (find_calls (some ai) cl l (rd_T37 plan i).f1 _ (Kd.C_below HL.out HB.out) HLC.out).mono ?_
           rintro e_ wz ⟨rfl, ⟨m_, rfl⟩⟩
           have hb := pw_below_drewN (Below.refl we.heap.size we) m_
           have nHB_ := Aside0.mk (below_step HB.out hb)
           have nBA_ := Aside0.mk (blk_below BA.out hb)
           have nBB_ := Aside0.mk (blk_below BB.out hb)
           clear hb HB BA BB
           have HB := nHB_
           have BA := nBA_
           have BB := nBB_
           clear nHB_ nBA_ nBB_
           generalize we.drewN m_ = wf at HB BA BB ⊢
           rw [RVA.out]
           refine ⟨_, rfl, ?_⟩
           refine hK.out _ _ ⟨((blk_cell BA.out 0).trans rfl), ((blk_cell BA.out 1).trans rfl), ((blk_cell BB.out 0).trans rfl), ((blk_cell BB.out 1).trans rfl), ((HB.out.cell (World.block_lt_of_cell? w _ YA0.out)).trans YA0.out), ((HB.out.cell (World.block_lt_of_cell? w _ YA1.out)).trans YA1.out), ((HB.out.cell (World.block_lt_of_cell? w _ YA2.out)).trans YA2.out), ((HB.out.cell (World.block_lt_of_cell? w _ YA3.out)).trans YA3.out), ((HB.out.cell (World.block_lt_of_cell? w _ YB0.out)).trans YB0.out), ((HB.out.cell (World.block_lt_of_cell? w _ YB1.out)).trans YB1.out), ((HB.out.cell (World.block_lt_of_cell? w _ YB2.out)).trans YB2.out), ((HB.out.cell (World.block_lt_of_cell? w _ YB3.out)).trans YB3.out)⟩ (fun hHeld => ?_)
           clear hK K
           refine norm_ (a' := ?_) ?_ ?_
           rotate_left
           ·show Act.put _ (some 73) _ = _
            simp only [Act.put, List.setIfInBounds_toArray, List.set_cons_zero, List.set_cons_succ, i64_w, i32_w]
            rfl
           refine pure_ (i := 13) (N := some 74) (v := ?_) (a' := ?_) #[true, true, true, true, true, true, true, true, true, true, true, true, true, true, false, true, true, true, true, false, false, false, false, false, false] rfl rfl (any_of HT_.out (by kernel_rfl)) (fun _ _ _ h => h) (Or.inl ⟨by rfl, ?_⟩) ?_ ?_
           rotate_left
           ·intro w'
            go_simp
            with_reducible rfl
           rotate_left
           ·simp only [Act.put, List.setIfInBounds_toArray, List.set_cons_zero, List.set_cons_succ, i64_w, i32_w]
            rfl
           refine take_ (i := 14) (N := some 75) (v := ?_) (a' := ?_) #[true, true, true, true, true, true, true, true, true, true, true, true, true, true, true, true, true, true, true, false, false, false, false, false, false] rfl rfl (take_ofW HT_.out HW_.out (by kernel_rfl)) (fun _ _ _ h => h) (Or.inl ⟨by rfl, ?_⟩) hHeld ?_ ?_
           rotate_left
           ·rintro w' ⟨s0, s1, s2, s3, s4, s5, s6, s7, s8, s9, s10, s11⟩
            go_simp
            with_reducible rfl
           rotate_left
           ·simp only [Act.put, List.setIfInBounds_toArray, List.set_cons_zero, List.set_cons_succ, i64_w, i32_w]
            rfl
           refine one_ (i := 19) (N := some 80) #[true, true, true, true, true, true, true, true, true, true, true, true, true, true, true, true, true, true, true, true, false, false, false, false, false] rfl rfl (one_of HT_.out (by kernel_rfl)) (by decide) (fun K hK => ?_)
           refine goes_ Try.func33 (by kernel_rfl) rfl #[.slice (some ai) l.length cl, .int .i64 (rd_T37 plan k).f1] (by rfl) rfl rfl (by simp only [List.map_toArray, List.map_cons, List.map_nil]; rfl) ?_
           with_reducible refine (find_calls (some ai) cl l (rd_T37 plan k).f1 _ (Kd.C_below HL.out HB.out) HLC.out).mono ?_
           rintro e_ wz ⟨rfl, ⟨m_, rfl⟩⟩
           have hb := pw_below_drewN (Below.refl wf.heap.size wf) m_
           have nHB_ := Aside0.mk (below_step HB.out hb)
           have nBA_ := Aside0.mk (blk_below BA.out hb)
           have nBB_ := Aside0.mk (blk_below BB.out hb)
           clear hb HB BA BB
           have HB := nHB_
           have BA := nBA_
           have BB := nBB_
           clear nHB_ nBA_ nBB_
           generalize wf.drewN m_ = wg at HB BA BB ⊢
           rw [RVB.out]
           refine ⟨_, rfl, ?_⟩
           refine hK.out _ _ ⟨((blk_cell BA.out 0).trans rfl), ((blk_cell BA.out 1).trans rfl), ((blk_cell BB.out 0).trans rfl), ((blk_cell BB.out 1).trans rfl), ((HB.out.cell (World.block_lt_of_cell? w _ YA0.out)).trans YA0.out), ((HB.out.cell (World.block_lt_of_cell? w _ YA1.out)).trans YA1.out), ((HB.out.cell (World.block_lt_of_cell? w _ YA2.out)).trans YA2.out), ((HB.out.cell (World.block_lt_of_cell? w _ YA3.out)).trans YA3.out), ((HB.out.cell (World.block_lt_of_cell? w _ YB0.out)).trans YB0.out), ((HB.out.cell (World.block_lt_of_cell? w _ YB1.out)).trans YB1.out), ((HB.out.cell (World.block_lt_of_cell? w _ YB2.out)).trans YB2.out), ((HB.out.cell (World.block_lt_of_cell? w _ YB3.out)).trans YB3.out)⟩ (fun hHeld => ?_)
           clear hK K
           refine norm_ (a' := ?_) ?_ ?_
           rotate_left
           ·show Act.put _ (some 80) _ = _
            simp only [Act.put, List.setIfInBounds_toArray, List.set_cons_zero, List.set_cons_succ, i64_w, i32_w]
            rfl
           refine pure_ (i := 20) (N := some 81) (v := ?_) (a' := ?_) #[true, true, true, true, true, true, true, true, true, true, true, true, true, true, true, true, true, true, true, true, true, false, false, false, false] rfl rfl (any_of HT_.out (by kernel_rfl)) (fun _ _ _ h => h) (Or.inl ⟨by rfl, ?_⟩) ?_ ?_
           rotate_left
           ·intro w'
            go_simp
            with_reducible rfl
           rotate_left
           ·simp only [Act.put, List.setIfInBounds_toArray, List.set_cons_zero, List.set_cons_succ, i64_w, i32_w]
            rfl
           refine take_ (i := 21) (N := some 82) (v := ?_) (a' := ?_) #[true, true, true, true, true, true, true, true, true, true, true, true, true, true, true, true, true, true, true, true, true, true, false, false, false] rfl rfl (take_ofW HT_.out HW_.out (by kernel_rfl)) (fun _ _ _ h => h) (Or.inl ⟨by rfl, ?_⟩) hHeld ?_ ?_
           rotate_left
           ·rintro w' ⟨s0, s1, s2, s3, s4, s5, s6, s7, s8, s9, s10, s11⟩
            go_simp
            with_reducible rfl
           rotate_left
           ·simp only [Act.put, List.setIfInBounds_toArray, List.set_cons_zero, List.set_cons_succ, i64_w, i32_w]
            rfl
           refine one_ (i := 22) (N := some 83) #[true, true, true, true, true, true, true, true, true, true, true, true, true, true, true, true, true, true, true, true, true, true, true, false, false] rfl rfl (one_of HT_.out (by kernel_rfl)) (by decide) (fun K hK => ?_)
           refine goes_ Try.func32 (by kernel_rfl) rfl #[.agg #[.int .i64 (rd_T34 l (runAt l (rd_T37 plan i).f1 : Nat)).f0, .int .i64 (rd_T34 l (runAt l (rd_T37 plan i).f1 : Nat)).f1, .bool (rd_T34 l (runAt l (rd_T37 plan i).f1 : Nat)).f2, .slice A5 (rd_T34 l (runAt l (rd_T37 plan i).f1 : Nat)).f3.length c5], .agg #[.int .i64 (rd_T34 l (runAt l (rd_T37 plan k).f1 : Nat)).f0, .int .i64 (rd_T34 l (runAt l (rd_T37 plan k).f1 : Nat)).f1, .bool (rd_T34 l (runAt l (rd_T37 plan k).f1 : Nat)).f2, .slice A6 (rd_T34 l (runAt l (rd_T37 plan k).f1 : Nat)).f3.length c6]] (by rfl) rfl rfl (by simp only [List.map_toArray, List.map_cons, List.map_nil]; rfl) ?_
           with_reducible refine (rclash_calls (rd_T34 l (runAt l (rd_T37 plan i).f1 : Nat)) (rd_T34 l (runAt l (rd_T37 plan k).f1 : Nat)) A5 A6 c5 c6 _ (Kd.C_below H5.out HB.out) H5C.out (Kd.C_below H6.out HB.out) H6C.out).mono ?_
           rintro e_ wy ⟨rfl, hb⟩
           refine ⟨_, rfl, ?_⟩
           have nHB_ := Aside0.mk (below_step HB.out hb)
           have nBA_ := Aside0.mk (blk_below BA.out hb)
           have nBB_ := Aside0.mk (blk_below BB.out hb)
           clear hb HB BA BB
           have HB := nHB_
           have BA := nBA_
           have BB := nBB_
           clear nHB_ nBA_ nBB_
           refine hK.out _ _ ⟨((blk_cell BA.out 0).trans rfl), ((blk_cell BA.out 1).trans rfl), ((blk_cell BB.out 0).trans rfl), ((blk_cell BB.out 1).trans rfl), ((HB.out.cell (World.block_lt_of_cell? w _ YA0.out)).trans YA0.out), ((HB.out.cell (World.block_lt_of_cell? w _ YA1.out)).trans YA1.out), ((HB.out.cell (World.block_lt_of_cell? w _ YA2.out)).trans YA2.out), ((HB.out.cell (World.block_lt_of_cell? w _ YA3.out)).trans YA3.out), ((HB.out.cell (World.block_lt_of_cell? w _ YB0.out)).trans YB0.out), ((HB.out.cell (World.block_lt_of_cell? w _ YB1.out)).trans YB1.out), ((HB.out.cell (World.block_lt_of_cell? w _ YB2.out)).trans YB2.out), ((HB.out.cell (World.block_lt_of_cell? w _ YB3.out)).trans YB3.out)⟩ (fun hHeld => ?_)
           clear hK K
           refine norm_ (a' := ?_) ?_ ?_
           rotate_left
           ·show Act.put _ (some 83) _ = _
            simp only [Act.put, List.setIfInBounds_toArray, List.set_cons_zero, List.set_cons_succ, i64_w, i32_w]
            rfl
           refine pure_ (i := 23) (N := some 84) (v := ?_) (a' := ?_) #[true, true, true, true, true, true, true, true, true, true, true, true, true, true, true, true, true, true, true, true, true, true, true, true, false] rfl rfl (any_of HT_.out (by kernel_rfl)) (fun _ _ _ h => h) (Or.inl ⟨by rfl, ?_⟩) ?_ ?_
           rotate_left
           ·intro w'
            go_simp
            with_reducible rfl
           rotate_left
           ·simp only [Act.put, List.setIfInBounds_toArray, List.set_cons_zero, List.set_cons_succ, i64_w, i32_w]
            rfl
           refine pure_ (i := 24) (N := some 85) (v := ?_) (a' := ?_) #[true, true, true, true, true, true, true, true, true, true, true, true, true, true, true, true, true, true, true, true, true, true, true, true, true] rfl rfl (any_of HT_.out (by kernel_rfl)) (fun _ _ _ h => h) (Or.inl ⟨by rfl, ?_⟩) ?_ ?_
           rotate_left
           ·intro w'
            go_simp
            with_reducible rfl
           rotate_left
           ·simp only [Act.put, List.setIfInBounds_toArray, List.set_cons_zero, List.set_cons_succ, i64_w, i32_w]
            rfl
           refine done_ (done_of HT_.out (by kernel_rfl)) ?_
           cases hcl : clashT (rd_T34 l (runAt l (rd_T37 plan i).f1 : Nat)) (rd_T34 l (runAt l (rd_T37 plan k).f1 : Nat)) with
           | true =>
            have HV := Aside0.mk (show rvalV l win plan = false from rv_bad hlt hkt (by unfold badB; rw [hcl]; simp [overB, o1, o2]))
            go_wp2
            go_ret
            exact ⟨by rw [HV.out]; first | rfl | (simp; done), HB.out⟩
           | false =>
            have HK := Aside0.mk (show rvK l plan i (k + 1) = true from by rw [rvK, HRK.out, show badB l (rd_T37 plan i) (rd_T37 plan k) = false from by unfold badB; rw [e1, hcl, e2b]; simp]; rfl)
            try go_wp2
            exact ⟨⟨k + 1, hkt, rfl, HK.out, HB.out⟩, by simp [intOf]; omega⟩
         ·have o2 : decide ((rd_T37 plan k).f2 < (rd_T37 plan i).f3) = false := decide_eq_false o2_
          clear o2_
          have HK := Aside0.mk (show rvK l plan i (k + 1) = true from by rw [rvK, HRK.out, show badB l (rd_T37 plan i) (rd_T37 plan k) = false from by unfold badB; rw [e1]; simp [overB, o1, o2]]; rfl)
          go_wp2_with fail
          clear s0 s1 s2 s3 t0 t1 t2 t3 za zb
          have hb := below_drew (Below.refl wu.heap.size wu)
          have nHB_ := Aside0.mk (below_step HB.out hb)
          have nBA_ := Aside0.mk (blk_below BA.out hb)
          have nBB_ := Aside0.mk (blk_below BB.out hb)
          clear hb HB BA BB
          have HB := nHB_
          have BA := nBA_
          have BB := nBB_
          clear nHB_ nBA_ nBB_
          refine start_ (n := 25) (S := fun w' => w'.cell? ⟨ga, 0, none⟩ = some (.int .i64 (rd_T37 plan i).f0) ∧ w'.cell? ⟨ga, 1, none⟩ = some (.int .i64 (rd_T37 plan i).f1) ∧ w'.cell? ⟨gb, 0, none⟩ = some (.int .i64 (rd_T37 plan k).f0) ∧ w'.cell? ⟨gb, 1, none⟩ = some (.int .i64 (rd_T37 plan k).f1)) (ds := []) #[false, false, false, false, false, false, false, false, false, false, false, false, false, false, false, false, false, false, false, false, false, false, false, false, false] (by kernel_rfl) rfl rfl ⟨((blk_cell BA.out 0).trans rfl), ((blk_cell BA.out 1).trans rfl), ((blk_cell BB.out 0).trans rfl), ((blk_cell BB.out 1).trans rfl)⟩ (fun hHeld => ?_)
          refine with_tabW X20.tab15 X20.bits15 (fun HT_ HW_ => ?_)
          generalize wu.drew = we at HB BA BB hHeld ⊢
          refine pure_ (i := 0) (N := some 61) (v := ?_) (a' := ?_) #[true, false, false, false, false, false, false, false, false, false, false, false, false, false, false, false, false, false, false, false, false, false, false, false, false] rfl rfl (any_of HT_.out (by kernel_rfl)) (fun _ _ _ h => h) (Or.inl ⟨by rfl, ?_⟩) ?_ ?_
          rotate_left
          ·intro w'
           go_simp
           with_reducible rfl
          rotate_left
          ·simp only [Act.put, List.setIfInBounds_toArray, List.set_cons_zero, List.set_cons_succ, i64_w, i32_w]
           rfl
          refine pure_ (i := 1) (N := some 62) (v := ?_) (a' := ?_) #[true, true, false, false, false, false, false, false, false, false, false, false, false, false, false, false, false, false, false, false, false, false, false, false, false] rfl rfl (any_of HT_.out (by kernel_rfl)) (fun _ _ _ h => h) (Or.inl ⟨by rfl, ?_⟩) ?_ ?_
          rotate_left
          ·intro w'
           go_simp
           with_reducible rfl
          rotate_left
          ·simp only [Act.put, List.setIfInBounds_toArray, List.set_cons_zero, List.set_cons_succ, i64_w, i32_w]
           rfl
          refine pure_ (i := 2) (N := some 63) (v := undef) (a' := ?_) #[true, true, true, false, false, false, false, false, false, false, false, false, false, false, false, false, false, false, false, false, false, false, false, false, false] rfl rfl (any_of HT_.out (by kernel_rfl)) (fun _ _ _ h => h) (Or.inr ⟨by rfl, rfl⟩) ?_ ?_
          rotate_left
          ·simp only [Act.put, List.setIfInBounds_toArray, List.set_cons_zero, List.set_cons_succ, i64_w, i32_w]
           rfl
          refine pure_ (i := 3) (N := some 64) (v := undef) (a' := ?_) #[true, true, true, true, false, false, false, false, false, false, false, false, false, false, false, false, false, false, false, false, false, false, false, false, false] rfl rfl (any_of HT_.out (by kernel_rfl)) (fun _ _ _ h => h) (Or.inr ⟨by rfl, rfl⟩) ?_ ?_
          rotate_left
          ·simp only [Act.put, List.setIfInBounds_toArray, List.set_cons_zero, List.set_cons_succ, i64_w, i32_w]
           rfl
          refine pure_ (i := 4) (N := some 65) (v := undef) (a' := ?_) #[true, true, true, true, true, false, false, false, false, false, false, false, false, false, false, false, false, false, false, false, false, false, false, false, false] rfl rfl (any_of HT_.out (by kernel_rfl)) (fun _ _ _ h => h) (Or.inr ⟨by rfl, rfl⟩) ?_ ?_
          rotate_left
          ·simp only [Act.put, List.setIfInBounds_toArray, List.set_cons_zero, List.set_cons_succ, i64_w, i32_w]
           rfl
          refine pure_ (i := 5) (N := some 66) (v := undef) (a' := ?_) #[true, true, true, true, true, true, false, false, false, false, false, false, false, false, false, false, false, false, false, false, false, false, false, false, false] rfl rfl (any_of HT_.out (by kernel_rfl)) (fun _ _ _ h => h) (Or.inr ⟨by rfl, rfl⟩) ?_ ?_
          rotate_left
          ·simp only [Act.put, List.setIfInBounds_toArray, List.set_cons_zero, List.set_cons_succ, i64_w, i32_w]
           rfl
          refine pure_ (i := 6) (N := some 67) (v := undef) (a' := ?_) #[true, true, true, true, true, true, true, false, false, false, false, false, false, false, false, false, false, false, false, false, false, false, false, false, false] rfl rfl (any_of HT_.out (by kernel_rfl)) (fun _ _ _ h => h) (Or.inr ⟨by rfl, rfl⟩) ?_ ?_
          rotate_left
          ·simp only [Act.put, List.setIfInBounds_toArray, List.set_cons_zero, List.set_cons_succ, i64_w, i32_w]
           rfl
          refine pure_ (i := 7) (N := some 68) (v := undef) (a' := ?_) #[true, true, true, true, true, true, true, true, false, false, false, false, false, false, false, false, false, false, false, false, false, false, false, false, false] rfl rfl (any_of HT_.out (by kernel_rfl)) (fun _ _ _ h => h) (Or.inr ⟨by rfl, rfl⟩) ?_ ?_
          rotate_left
          ·simp only [Act.put, List.setIfInBounds_toArray, List.set_cons_zero, List.set_cons_succ, i64_w, i32_w]
           rfl
          refine pure_ (i := 8) (N := some 69) (v := undef) (a' := ?_) #[true, true, true, true, true, true, true, true, true, false, false, false, false, false, false, false, false, false, false, false, false, false, false, false, false] rfl rfl (any_of HT_.out (by kernel_rfl)) (fun _ _ _ h => h) (Or.inr ⟨by rfl, rfl⟩) ?_ ?_
          rotate_left
          ·simp only [Act.put, List.setIfInBounds_toArray, List.set_cons_zero, List.set_cons_succ, i64_w, i32_w]
           rfl
          refine pure_ (i := 9) (N := some 70) (v := undef) (a' := ?_) #[true, true, true, true, true, true, true, true, true, true, false, false, false, false, false, false, false, false, false, false, false, false, false, false, false] rfl rfl (any_of HT_.out (by kernel_rfl)) (fun _ _ _ h => h) (Or.inr ⟨by rfl, rfl⟩) ?_ ?_
          rotate_left
          ·simp only [Act.put, List.setIfInBounds_toArray, List.set_cons_zero, List.set_cons_succ, i64_w, i32_w]
           rfl
          refine pure_ (i := 10) (N := some 71) (v := undef) (a' := ?_) #[true, true, true, true, true, true, true, true, true, true, true, false, false, false, false, false, false, false, false, false, false, false, false, false, false] rfl rfl (any_of HT_.out (by kernel_rfl)) (fun _ _ _ h => h) (Or.inr ⟨by rfl, rfl⟩) ?_ ?_
          rotate_left
          ·simp only [Act.put, List.setIfInBounds_toArray, List.set_cons_zero, List.set_cons_succ, i64_w, i32_w]
           rfl
          refine pure_ (i := 11) (N := some 72) (v := undef) (a' := ?_) #[true, true, true, true, true, true, true, true, true, true, true, true, false, false, false, false, false, false, false, false, false, false, false, false, false] rfl rfl (any_of HT_.out (by kernel_rfl)) (fun _ _ _ h => h) (Or.inr ⟨by rfl, rfl⟩) ?_ ?_
          rotate_left
          ·simp only [Act.put, List.setIfInBounds_toArray, List.set_cons_zero, List.set_cons_succ, i64_w, i32_w]
           rfl
          refine pure_ (i := 12) (N := some 73) (v := undef) (a' := ?_) #[true, true, true, true, true, true, true, true, true, true, true, true, true, false, false, false, false, false, false, false, false, false, false, false, false] rfl rfl (any_of HT_.out (by kernel_rfl)) (fun _ _ _ h => h) (Or.inr ⟨by rfl, rfl⟩) ?_ ?_
          rotate_left
          ·simp only [Act.put, List.setIfInBounds_toArray, List.set_cons_zero, List.set_cons_succ, i64_w, i32_w]
           rfl
          refine pure_ (i := 13) (N := some 74) (v := undef) (a' := ?_) #[true, true, true, true, true, true, true, true, true, true, true, true, true, true, false, false, false, false, false, false, false, false, false, false, false] rfl rfl (any_of HT_.out (by kernel_rfl)) (fun _ _ _ h => h) (Or.inr ⟨by rfl, rfl⟩) ?_ ?_
          rotate_left
          ·simp only [Act.put, List.setIfInBounds_toArray, List.set_cons_zero, List.set_cons_succ, i64_w, i32_w]
           rfl
          refine pure_ (i := 14) (N := some 75) (v := undef) (a' := ?_) #[true, true, true, true, true, true, true, true, true, true, true, true, true, true, true, false, false, false, false, false, false, false, false, false, false] rfl rfl (any_of HT_.out (by kernel_rfl)) (fun _ _ _ h => h) (Or.inr ⟨by rfl, rfl⟩) ?_ ?_
          rotate_left
          ·simp only [Act.put, List.setIfInBounds_toArray, List.set_cons_zero, List.set_cons_succ, i64_w, i32_w]
           rfl
          refine pure_ (i := 15) (N := some 76) (v := undef) (a' := ?_) #[true, true, true, true, true, true, true, true, true, true, true, true, true, true, true, true, false, false, false, false, false, false, false, false, false] rfl rfl (any_of HT_.out (by kernel_rfl)) (fun _ _ _ h => h) (Or.inr ⟨by rfl, rfl⟩) ?_ ?_
          rotate_left
          ·simp only [Act.put, List.setIfInBounds_toArray, List.set_cons_zero, List.set_cons_succ, i64_w, i32_w]
           rfl
          refine pure_ (i := 16) (N := some 77) (v := undef) (a' := ?_) #[true, true, true, true, true, true, true, true, true, true, true, true, true, true, true, true, true, false, false, false, false, false, false, false, false] rfl rfl (any_of HT_.out (by kernel_rfl)) (fun _ _ _ h => h) (Or.inr ⟨by rfl, rfl⟩) ?_ ?_
          rotate_left
          ·simp only [Act.put, List.setIfInBounds_toArray, List.set_cons_zero, List.set_cons_succ, i64_w, i32_w]
           rfl
          refine pure_ (i := 17) (N := some 78) (v := undef) (a' := ?_) #[true, true, true, true, true, true, true, true, true, true, true, true, true, true, true, true, true, true, false, false, false, false, false, false, false] rfl rfl (any_of HT_.out (by kernel_rfl)) (fun _ _ _ h => h) (Or.inr ⟨by rfl, rfl⟩) ?_ ?_
          rotate_left
          ·simp only [Act.put, List.setIfInBounds_toArray, List.set_cons_zero, List.set_cons_succ, i64_w, i32_w]
           rfl
          refine pure_ (i := 18) (N := some 79) (v := undef) (a' := ?_) #[true, true, true, true, true, true, true, true, true, true, true, true, true, true, true, true, true, true, true, false, false, false, false, false, false] rfl rfl (any_of HT_.out (by kernel_rfl)) (fun _ _ _ h => h) (Or.inr ⟨by rfl, rfl⟩) ?_ ?_
          rotate_left
          ·simp only [Act.put, List.setIfInBounds_toArray, List.set_cons_zero, List.set_cons_succ, i64_w, i32_w]
           rfl
          refine pure_ (i := 19) (N := some 80) (v := undef) (a' := ?_) #[true, true, true, true, true, true, true, true, true, true, true, true, true, true, true, true, true, true, true, true, false, false, false, false, false] rfl rfl (any_of HT_.out (by kernel_rfl)) (fun _ _ _ h => h) (Or.inr ⟨by rfl, rfl⟩) ?_ ?_
          rotate_left
          ·simp only [Act.put, List.setIfInBounds_toArray, List.set_cons_zero, List.set_cons_succ, i64_w, i32_w]
           rfl
          refine pure_ (i := 20) (N := some 81) (v := undef) (a' := ?_) #[true, true, true, true, true, true, true, true, true, true, true, true, true, true, true, true, true, true, true, true, true, false, false, false, false] rfl rfl (any_of HT_.out (by kernel_rfl)) (fun _ _ _ h => h) (Or.inr ⟨by rfl, rfl⟩) ?_ ?_
          rotate_left
          ·simp only [Act.put, List.setIfInBounds_toArray, List.set_cons_zero, List.set_cons_succ, i64_w, i32_w]
           rfl
          refine pure_ (i := 21) (N := some 82) (v := undef) (a' := ?_) #[true, true, true, true, true, true, true, true, true, true, true, true, true, true, true, true, true, true, true, true, true, true, false, false, false] rfl rfl (any_of HT_.out (by kernel_rfl)) (fun _ _ _ h => h) (Or.inr ⟨by rfl, rfl⟩) ?_ ?_
          rotate_left
          ·simp only [Act.put, List.setIfInBounds_toArray, List.set_cons_zero, List.set_cons_succ, i64_w, i32_w]
           rfl
          refine pure_ (i := 22) (N := some 83) (v := undef) (a' := ?_) #[true, true, true, true, true, true, true, true, true, true, true, true, true, true, true, true, true, true, true, true, true, true, true, false, false] rfl rfl (any_of HT_.out (by kernel_rfl)) (fun _ _ _ h => h) (Or.inr ⟨by rfl, rfl⟩) ?_ ?_
          rotate_left
          ·simp only [Act.put, List.setIfInBounds_toArray, List.set_cons_zero, List.set_cons_succ, i64_w, i32_w]
           rfl
          refine pure_ (i := 23) (N := some 84) (v := undef) (a' := ?_) #[true, true, true, true, true, true, true, true, true, true, true, true, true, true, true, true, true, true, true, true, true, true, true, true, false] rfl rfl (any_of HT_.out (by kernel_rfl)) (fun _ _ _ h => h) (Or.inr ⟨by rfl, rfl⟩) ?_ ?_
          rotate_left
          ·simp only [Act.put, List.setIfInBounds_toArray, List.set_cons_zero, List.set_cons_succ, i64_w, i32_w]
           rfl
          refine pure_ (i := 24) (N := some 85) (v := ?_) (a' := ?_) #[true, true, true, true, true, true, true, true, true, true, true, true, true, true, true, true, true, true, true, true, true, true, true, true, true] rfl rfl (any_of HT_.out (by kernel_rfl)) (fun _ _ _ h => h) (Or.inl ⟨by rfl, ?_⟩) ?_ ?_
          rotate_left
          ·intro w'
           go_simp
           with_reducible rfl
          rotate_left
          ·simp only [Act.put, List.setIfInBounds_toArray, List.set_cons_zero, List.set_cons_succ, i64_w, i32_w]
           rfl
          refine done_ (done_of HT_.out (by kernel_rfl)) ?_
          try go_wp2
          exact ⟨⟨k + 1, hkt, rfl, HK.out, HB.out⟩, by simp [intOf]; omega⟩
        ·have o1 : decide ((rd_T37 plan i).f2 < (rd_T37 plan k).f3) = false := decide_eq_false o1_
         clear o1_
         have HK := Aside0.mk (show rvK l plan i (k + 1) = true from by rw [rvK, HRK.out, show badB l (rd_T37 plan i) (rd_T37 plan k) = false from by unfold badB; rw [e1]; simp [overB, o1]]; rfl)
         go_wp2_with fail
         clear s0 s1 s2 s3 t0 t1 t2 t3 za zb
         have hb := below_drew (Below.refl wu.heap.size wu)
         have nHB_ := Aside0.mk (below_step HB.out hb)
         have nBA_ := Aside0.mk (blk_below BA.out hb)
         have nBB_ := Aside0.mk (blk_below BB.out hb)
         clear hb HB BA BB
         have HB := nHB_
         have BA := nBA_
         have BB := nBB_
         clear nHB_ nBA_ nBB_
         refine start_ (n := 25) (S := fun w' => w'.cell? ⟨ga, 0, none⟩ = some (.int .i64 (rd_T37 plan i).f0) ∧ w'.cell? ⟨ga, 1, none⟩ = some (.int .i64 (rd_T37 plan i).f1) ∧ w'.cell? ⟨gb, 0, none⟩ = some (.int .i64 (rd_T37 plan k).f0) ∧ w'.cell? ⟨gb, 1, none⟩ = some (.int .i64 (rd_T37 plan k).f1)) (ds := []) #[false, false, false, false, false, false, false, false, false, false, false, false, false, false, false, false, false, false, false, false, false, false, false, false, false] (by kernel_rfl) rfl rfl ⟨((blk_cell BA.out 0).trans rfl), ((blk_cell BA.out 1).trans rfl), ((blk_cell BB.out 0).trans rfl), ((blk_cell BB.out 1).trans rfl)⟩ (fun hHeld => ?_)
         refine with_tabW X20.tab15 X20.bits15 (fun HT_ HW_ => ?_)
         generalize wu.drew = we at HB BA BB hHeld ⊢
         refine pure_ (i := 0) (N := some 61) (v := ?_) (a' := ?_) #[true, false, false, false, false, false, false, false, false, false, false, false, false, false, false, false, false, false, false, false, false, false, false, false, false] rfl rfl (any_of HT_.out (by kernel_rfl)) (fun _ _ _ h => h) (Or.inl ⟨by rfl, ?_⟩) ?_ ?_
         rotate_left
         ·intro w'
          go_simp
          with_reducible rfl
         rotate_left
         ·simp only [Act.put, List.setIfInBounds_toArray, List.set_cons_zero, List.set_cons_succ, i64_w, i32_w]
          rfl
         refine pure_ (i := 1) (N := some 62) (v := ?_) (a' := ?_) #[true, true, false, false, false, false, false, false, false, false, false, false, false, false, false, false, false, false, false, false, false, false, false, false, false] rfl rfl (any_of HT_.out (by kernel_rfl)) (fun _ _ _ h => h) (Or.inl ⟨by rfl, ?_⟩) ?_ ?_
         rotate_left
         ·intro w'
          go_simp
          with_reducible rfl
         rotate_left
         ·simp only [Act.put, List.setIfInBounds_toArray, List.set_cons_zero, List.set_cons_succ, i64_w, i32_w]
          rfl
         refine pure_ (i := 2) (N := some 63) (v := undef) (a' := ?_) #[true, true, true, false, false, false, false, false, false, false, false, false, false, false, false, false, false, false, false, false, false, false, false, false, false] rfl rfl (any_of HT_.out (by kernel_rfl)) (fun _ _ _ h => h) (Or.inr ⟨by rfl, rfl⟩) ?_ ?_
         rotate_left
         ·simp only [Act.put, List.setIfInBounds_toArray, List.set_cons_zero, List.set_cons_succ, i64_w, i32_w]
          rfl
         refine pure_ (i := 3) (N := some 64) (v := undef) (a' := ?_) #[true, true, true, true, false, false, false, false, false, false, false, false, false, false, false, false, false, false, false, false, false, false, false, false, false] rfl rfl (any_of HT_.out (by kernel_rfl)) (fun _ _ _ h => h) (Or.inr ⟨by rfl, rfl⟩) ?_ ?_
         rotate_left
         ·simp only [Act.put, List.setIfInBounds_toArray, List.set_cons_zero, List.set_cons_succ, i64_w, i32_w]
          rfl
         refine pure_ (i := 4) (N := some 65) (v := undef) (a' := ?_) #[true, true, true, true, true, false, false, false, false, false, false, false, false, false, false, false, false, false, false, false, false, false, false, false, false] rfl rfl (any_of HT_.out (by kernel_rfl)) (fun _ _ _ h => h) (Or.inr ⟨by rfl, rfl⟩) ?_ ?_
         rotate_left
         ·simp only [Act.put, List.setIfInBounds_toArray, List.set_cons_zero, List.set_cons_succ, i64_w, i32_w]
          rfl
         refine pure_ (i := 5) (N := some 66) (v := undef) (a' := ?_) #[true, true, true, true, true, true, false, false, false, false, false, false, false, false, false, false, false, false, false, false, false, false, false, false, false] rfl rfl (any_of HT_.out (by kernel_rfl)) (fun _ _ _ h => h) (Or.inr ⟨by rfl, rfl⟩) ?_ ?_
         rotate_left
         ·simp only [Act.put, List.setIfInBounds_toArray, List.set_cons_zero, List.set_cons_succ, i64_w, i32_w]
          rfl
         refine pure_ (i := 6) (N := some 67) (v := undef) (a' := ?_) #[true, true, true, true, true, true, true, false, false, false, false, false, false, false, false, false, false, false, false, false, false, false, false, false, false] rfl rfl (any_of HT_.out (by kernel_rfl)) (fun _ _ _ h => h) (Or.inr ⟨by rfl, rfl⟩) ?_ ?_
         rotate_left
         ·simp only [Act.put, List.setIfInBounds_toArray, List.set_cons_zero, List.set_cons_succ, i64_w, i32_w]
          rfl
         refine pure_ (i := 7) (N := some 68) (v := undef) (a' := ?_) #[true, true, true, true, true, true, true, true, false, false, false, false, false, false, false, false, false, false, false, false, false, false, false, false, false] rfl rfl (any_of HT_.out (by kernel_rfl)) (fun _ _ _ h => h) (Or.inr ⟨by rfl, rfl⟩) ?_ ?_
         rotate_left
         ·simp only [Act.put, List.setIfInBounds_toArray, List.set_cons_zero, List.set_cons_succ, i64_w, i32_w]
          rfl
         refine pure_ (i := 8) (N := some 69) (v := undef) (a' := ?_) #[true, true, true, true, true, true, true, true, true, false, false, false, false, false, false, false, false, false, false, false, false, false, false, false, false] rfl rfl (any_of HT_.out (by kernel_rfl)) (fun _ _ _ h => h) (Or.inr ⟨by rfl, rfl⟩) ?_ ?_
         rotate_left
         ·simp only [Act.put, List.setIfInBounds_toArray, List.set_cons_zero, List.set_cons_succ, i64_w, i32_w]
          rfl
         refine pure_ (i := 9) (N := some 70) (v := undef) (a' := ?_) #[true, true, true, true, true, true, true, true, true, true, false, false, false, false, false, false, false, false, false, false, false, false, false, false, false] rfl rfl (any_of HT_.out (by kernel_rfl)) (fun _ _ _ h => h) (Or.inr ⟨by rfl, rfl⟩) ?_ ?_
         rotate_left
         ·simp only [Act.put, List.setIfInBounds_toArray, List.set_cons_zero, List.set_cons_succ, i64_w, i32_w]
          rfl
         refine pure_ (i := 10) (N := some 71) (v := undef) (a' := ?_) #[true, true, true, true, true, true, true, true, true, true, true, false, false, false, false, false, false, false, false, false, false, false, false, false, false] rfl rfl (any_of HT_.out (by kernel_rfl)) (fun _ _ _ h => h) (Or.inr ⟨by rfl, rfl⟩) ?_ ?_
         rotate_left
         ·simp only [Act.put, List.setIfInBounds_toArray, List.set_cons_zero, List.set_cons_succ, i64_w, i32_w]
          rfl
         refine pure_ (i := 11) (N := some 72) (v := undef) (a' := ?_) #[true, true, true, true, true, true, true, true, true, true, true, true, false, false, false, false, false, false, false, false, false, false, false, false, false] rfl rfl (any_of HT_.out (by kernel_rfl)) (fun _ _ _ h => h) (Or.inr ⟨by rfl, rfl⟩) ?_ ?_
         rotate_left
         ·simp only [Act.put, List.setIfInBounds_toArray, List.set_cons_zero, List.set_cons_succ, i64_w, i32_w]
          rfl
         refine pure_ (i := 12) (N := some 73) (v := undef) (a' := ?_) #[true, true, true, true, true, true, true, true, true, true, true, true, true, false, false, false, false, false, false, false, false, false, false, false, false] rfl rfl (any_of HT_.out (by kernel_rfl)) (fun _ _ _ h => h) (Or.inr ⟨by rfl, rfl⟩) ?_ ?_
         rotate_left
         ·simp only [Act.put, List.setIfInBounds_toArray, List.set_cons_zero, List.set_cons_succ, i64_w, i32_w]
          rfl
         refine pure_ (i := 13) (N := some 74) (v := undef) (a' := ?_) #[true, true, true, true, true, true, true, true, true, true, true, true, true, true, false, false, false, false, false, false, false, false, false, false, false] rfl rfl (any_of HT_.out (by kernel_rfl)) (fun _ _ _ h => h) (Or.inr ⟨by rfl, rfl⟩) ?_ ?_
         rotate_left
         ·simp only [Act.put, List.setIfInBounds_toArray, List.set_cons_zero, List.set_cons_succ, i64_w, i32_w]
          rfl
         refine pure_ (i := 14) (N := some 75) (v := undef) (a' := ?_) #[true, true, true, true, true, true, true, true, true, true, true, true, true, true, true, false, false, false, false, false, false, false, false, false, false] rfl rfl (any_of HT_.out (by kernel_rfl)) (fun _ _ _ h => h) (Or.inr ⟨by rfl, rfl⟩) ?_ ?_
         rotate_left
         ·simp only [Act.put, List.setIfInBounds_toArray, List.set_cons_zero, List.set_cons_succ, i64_w, i32_w]
          rfl
         refine pure_ (i := 15) (N := some 76) (v := undef) (a' := ?_) #[true, true, true, true, true, true, true, true, true, true, true, true, true, true, true, true, false, false, false, false, false, false, false, false, false] rfl rfl (any_of HT_.out (by kernel_rfl)) (fun _ _ _ h => h) (Or.inr ⟨by rfl, rfl⟩) ?_ ?_
         rotate_left
         ·simp only [Act.put, List.setIfInBounds_toArray, List.set_cons_zero, List.set_cons_succ, i64_w, i32_w]
          rfl
         refine pure_ (i := 16) (N := some 77) (v := undef) (a' := ?_) #[true, true, true, true, true, true, true, true, true, true, true, true, true, true, true, true, true, false, false, false, false, false, false, false, false] rfl rfl (any_of HT_.out (by kernel_rfl)) (fun _ _ _ h => h) (Or.inr ⟨by rfl, rfl⟩) ?_ ?_
         rotate_left
         ·simp only [Act.put, List.setIfInBounds_toArray, List.set_cons_zero, List.set_cons_succ, i64_w, i32_w]
          rfl
         refine pure_ (i := 17) (N := some 78) (v := undef) (a' := ?_) #[true, true, true, true, true, true, true, true, true, true, true, true, true, true, true, true, true, true, false, false, false, false, false, false, false] rfl rfl (any_of HT_.out (by kernel_rfl)) (fun _ _ _ h => h) (Or.inr ⟨by rfl, rfl⟩) ?_ ?_
         rotate_left
         ·simp only [Act.put, List.setIfInBounds_toArray, List.set_cons_zero, List.set_cons_succ, i64_w, i32_w]
          rfl
         refine pure_ (i := 18) (N := some 79) (v := undef) (a' := ?_) #[true, true, true, true, true, true, true, true, true, true, true, true, true, true, true, true, true, true, true, false, false, false, false, false, false] rfl rfl (any_of HT_.out (by kernel_rfl)) (fun _ _ _ h => h) (Or.inr ⟨by rfl, rfl⟩) ?_ ?_
         rotate_left
         ·simp only [Act.put, List.setIfInBounds_toArray, List.set_cons_zero, List.set_cons_succ, i64_w, i32_w]
          rfl
         refine pure_ (i := 19) (N := some 80) (v := undef) (a' := ?_) #[true, true, true, true, true, true, true, true, true, true, true, true, true, true, true, true, true, true, true, true, false, false, false, false, false] rfl rfl (any_of HT_.out (by kernel_rfl)) (fun _ _ _ h => h) (Or.inr ⟨by rfl, rfl⟩) ?_ ?_
         rotate_left
         ·simp only [Act.put, List.setIfInBounds_toArray, List.set_cons_zero, List.set_cons_succ, i64_w, i32_w]
          rfl
         refine pure_ (i := 20) (N := some 81) (v := undef) (a' := ?_) #[true, true, true, true, true, true, true, true, true, true, true, true, true, true, true, true, true, true, true, true, true, false, false, false, false] rfl rfl (any_of HT_.out (by kernel_rfl)) (fun _ _ _ h => h) (Or.inr ⟨by rfl, rfl⟩) ?_ ?_
         rotate_left
         ·simp only [Act.put, List.setIfInBounds_toArray, List.set_cons_zero, List.set_cons_succ, i64_w, i32_w]
          rfl
         refine pure_ (i := 21) (N := some 82) (v := undef) (a' := ?_) #[true, true, true, true, true, true, true, true, true, true, true, true, true, true, true, true, true, true, true, true, true, true, false, false, false] rfl rfl (any_of HT_.out (by kernel_rfl)) (fun _ _ _ h => h) (Or.inr ⟨by rfl, rfl⟩) ?_ ?_
         rotate_left
         ·simp only [Act.put, List.setIfInBounds_toArray, List.set_cons_zero, List.set_cons_succ, i64_w, i32_w]
          rfl
         refine pure_ (i := 22) (N := some 83) (v := undef) (a' := ?_) #[true, true, true, true, true, true, true, true, true, true, true, true, true, true, true, true, true, true, true, true, true, true, true, false, false] rfl rfl (any_of HT_.out (by kernel_rfl)) (fun _ _ _ h => h) (Or.inr ⟨by rfl, rfl⟩) ?_ ?_
         rotate_left
         ·simp only [Act.put, List.setIfInBounds_toArray, List.set_cons_zero, List.set_cons_succ, i64_w, i32_w]
          rfl
         refine pure_ (i := 23) (N := some 84) (v := undef) (a' := ?_) #[true, true, true, true, true, true, true, true, true, true, true, true, true, true, true, true, true, true, true, true, true, true, true, true, false] rfl rfl (any_of HT_.out (by kernel_rfl)) (fun _ _ _ h => h) (Or.inr ⟨by rfl, rfl⟩) ?_ ?_
         rotate_left
         ·simp only [Act.put, List.setIfInBounds_toArray, List.set_cons_zero, List.set_cons_succ, i64_w, i32_w]
          rfl
         refine pure_ (i := 24) (N := some 85) (v := ?_) (a' := ?_) #[true, true, true, true, true, true, true, true, true, true, true, true, true, true, true, true, true, true, true, true, true, true, true, true, true] rfl rfl (any_of HT_.out (by kernel_rfl)) (fun _ _ _ h => h) (Or.inl ⟨by rfl, ?_⟩) ?_ ?_
         rotate_left
         ·intro w'
          go_simp
          with_reducible rfl
         rotate_left
         ·simp only [Act.put, List.setIfInBounds_toArray, List.set_cons_zero, List.set_cons_succ, i64_w, i32_w]
          rfl
         refine done_ (done_of HT_.out (by kernel_rfl)) ?_
         try go_wp2
         exact ⟨⟨k + 1, hkt, rfl, HK.out, HB.out⟩, by simp [intOf]; omega⟩
      ·obtain rfl : k = i := by omega
       have HE := Aside0.mk (show rvTo l win plan (k + 1) = true from by rw [rvTo, HRV.out, HF.out, HRK.out]; rfl)
       go_wp2
       exact ⟨⟨k + 1, hlt, rfl, HE.out, HB.out⟩, by simp [intOf]; omega⟩
   ·obtain rfl : i = plan.length := by omega
    have HV := Aside0.mk (show rvalV l win plan = true from by rw [rvalV, HRV.out, beq_iff_eq.mpr HLE.out]; rfl)
    go_wp2
    go_ret
    exact ⟨by rw [HV.out]; first | rfl | (simp; done), HB.out⟩
 ·have q0 : ((plan.length : Int) != (l.length : Int)) = true := bne_iff_ne.mpr (by omega)
  have q0b : ((plan.length : Int) == (l.length : Int)) = false := beq_eq_false_iff_ne.mpr (by omega)
  have HV := Aside0.mk (show rvalV l win plan = false from by rw [rvalV, beq_eq_false_iff_ne.mpr hle, Bool.false_and])
  clear hle
  go_enter Try.func20, Try.ntmps20
  go_wp2
  go_ret
  exact ⟨by rw [HV.out]; first | rfl | (simp; done), HB.out⟩
def skiarearef47_Valid.f (l0 : List S34) (l1 : List Bool) (l2 : List S37) : Option Bool := some (rvalV l0 l1 l2)
theorem skiarearef47_Valid.calls (A0 : Option Addr) (c0 : Nat) (l0 : List (S34)) (A1 : Option Addr) (c1 : Nat) (l1 : List Bool) (A2 : Option Addr) (c2 : Nat) (l2 : List (S37)) (r : Bool) (w : World) (hr0 : Kd.C k34 w A0 l0.length l0) (hc0 : l0.length ≤ c0) (hr1 : Kd.C Kd.bool w A1 l1.length l1) (hc1 : l1.length ≤ c1) (hr2 : Kd.C k37 w A2 l2.length l2) (hc2 : l2.length ≤ c2) (h : skiarearef47_Valid.f l0 l1 l2 = some r) :
  Calls Try.prog 20 #[.slice A0 l0.length c0, .slice A1 l1.length c1, .slice A2 l2.length c2] w fun e w' => e = .returned (.bool r) ∧ Below w.heap.size w w' := by
 obtain rfl := Option.some.inj h
 exact valid_calls A0 A1 A2 c0 c1 c2 l0 l1 l2 w hr0 hc0 hr1 hc1 hr2 hc2

end Go.Proofs.Yticfgecicmgpeaa.A
