-- PRINTED by print.py (a twelfth state) out of the translation. Not trusted: Lean checks it.
import Derived.Test.YticfgecicmgpeaaAx0
import Derived.Test.YticfgecicmgpeaaAx2
import Derived.Test.YticfgecicmgpeaaAx3
import Derived.Test.YticfgecicmgpeaaAx4
namespace Go.Proofs.Yticfgecicmgpeaa.A
open Go.RowKit Go.Proofs.YticfgecicmgpeaaW.PrintWords Go.Proofs.YticfgecicmgpeaaW.PrintLast Go.Proofs.YticfgecicmgpeaaW.PrintMore
attribute [local go_sem] max2_int min2_int max_two min_two max_three min_three max_four min_four   -- for this text's walks alone
set_option linter.unusedVariables false
set_option linter.unusedSimpArgs false

/-! ### route_planner_start: function 40 -/
def clashT (a b : S34) : Bool := decide (b.f0 ∈ a.f3) || decide (a.f0 ∈ b.f3)
/-- The earliest start of task i after t0, the first k tasks looked at. -/
def stTo (l : List S34) (plan : List S37) (i : Nat) (t0 : Int) : Nat → Int
 | 0 => t0
 | k + 1 => if (rd_T37 plan k).f0 ≠ 0 ∧ clashT (rd_T34 l i) (rd_T34 l k) = true then mx (stTo l plan i t0 k) (rd_T37 plan k).f3 else stTo l plan i t0 k
def stV (l : List S34) (plan : List S37) (free : List Int) (i g : Nat) : Int := stTo l plan i (rd free g) plan.length
theorem wrap_id {x : Int} (h : -9223372036854775808 ≤ x ∧ x ≤ 9223372036854775807) : wrap64 x = x := by unfold wrap64; omega
theorem wS (j n : Nat) (h : n ≤ 9223372036854775807) (hj : j < n) : wrap64 ((j : Int) + 1) = ((j + 1 : Nat) : Int) := by rw [wrap_id (by omega)]; rfl
theorem Ev.yes {α : Type} {c : Prop} [Decidable c] {f g : Nat → Option α} {r : α} (h : c) (H : Ev f r) : Ev (fun k => if c then f k else g k) r := Ev.congr (fun _ => if_pos h) H
theorem Ev.no {α : Type} {c : Prop} [Decidable c] {f g : Nat → Option α} {r : α} (h : ¬ c) (H : Ev g r) : Ev (fun k => if c then f k else g k) r := Ev.congr (fun _ => if_neg h) H
theorem Ev.ite {α : Type} {c : Prop} [Decidable c] {f g : Nat → Option α} {r : α} (h : c → Ev f r) (H : ¬ c → Ev g r) : Ev (fun k => if c then f k else g k) r := by
 by_cases hc : c
 ·exact Ev.yes hc (h hc)
 ·exact Ev.no hc (H hc)
theorem Ev.val {α : Type} {r r' : α} (h : r = r') : Ev (fun _ => some r) r' := by subst h; exact Ev.now _
theorem idx_l0 (l : List Int) (x : Int) (hl : l.length ≤ 9223372036854775807) (d : Nat) : ∀ j : Nat, l.length - j = d → j ≤ l.length → ∃ r : Int, Ev (fun k => slices_Index_int_int.l0 k l x l.length j) r ∧ (decide (r ≥ 0) = decide (x ∈ l.drop j)) := by
 induction d with
 | zero =>
  intro j hd hj
  obtain rfl : j = l.length := by omega
  exact ⟨-1, Ev.step (fun k => by rw [slices_Index_int_int.l0, if_neg (by omega)]) (Ev.now _), by simp⟩
 | succ d ih =>
  intro j hd hj
  have hlt : j < l.length := by omega
  have hr : rd l j = l[j] := by simp [rd, List.getElem?_eq_getElem hlt]
  by_cases he : x = rd l j
  ·refine ⟨j, Ev.step (fun k => by rw [slices_Index_int_int.l0, if_pos (by omega), if_pos (by omega), if_pos (by omega), if_pos he]) (Ev.now _), ?_⟩
   rw [List.drop_eq_getElem_cons hlt, he, hr, decide_eq_true (List.mem_cons_self ..), decide_eq_true (by omega)]
  ·obtain ⟨r, hE, hr2⟩ := ih (j + 1) (by omega) (by omega)
   refine ⟨r, Ev.step (fun k => by rw [slices_Index_int_int.l0, if_pos (by omega), if_pos (by omega), if_pos (by omega), if_neg he, wS j _ hl (by omega)]) hE, ?_⟩
   rw [hr] at he
   rw [hr2, List.drop_eq_getElem_cons hlt, decide_eq_decide, List.mem_cons]
   exact ⟨.inr, fun h => h.resolve_left he⟩
theorem has_ev (l : List Int) (x : Int) (hl : l.length ≤ 9223372036854775807) : Ev (fun k => slices_Contains_int_int.f k l x) (decide (x ∈ l)) := by
 obtain ⟨r, hE, hr⟩ := idx_l0 l x hl l.length 0 (by omega) (by omega)
 rw [List.drop_zero] at hr
 rw [← hr]
 exact Ev.bind hE (Ev.now _)
theorem clash_ev (a b : S34) (ha : a.f3.length ≤ 9223372036854775807) (hb : b.f3.length ≤ 9223372036854775807) : Ev (fun k => route_clash.f k a.f0 a.f1 a.f2 a.f3 b.f0 b.f1 b.f2 b.f3) (clashT a b) := by
 have h1 := has_ev a.f3 b.f0 ha
 have h2 := has_ev b.f3 a.f0 hb
 unfold clashT
 cases hc : decide (b.f0 ∈ a.f3) with
 | true => rw [hc] at h1; exact Ev.bind h1 (Ev.yes rfl (Ev.now _))
 | false => rw [hc] at h1; exact Ev.bind h1 (Ev.no (by decide) (Ev.bind h2 (Ev.now _)))
theorem clash_calls (a b : S34) (A B : Option Addr) (c d : Nat) (w : World) (ha : Kd.C (Kd.int .i64) w A a.f3.length a.f3) (hc : a.f3.length ≤ c) (hb : Kd.C (Kd.int .i64) w B b.f3.length b.f3) (hd : b.f3.length ≤ d) :
  Calls Try.prog 27 #[.agg #[.int .i64 a.f0, .int .i64 a.f1, .bool a.f2, .slice A a.f3.length c], .agg #[.int .i64 b.f0, .int .i64 b.f1, .bool b.f2, .slice B b.f3.length d]] w fun e w' => e = .returned (.bool (clashT a b)) ∧ Below w.heap.size w w' := by
 obtain ⟨k, hk⟩ := (clash_ev a b ha.2.1 hb.2.1).rounds
 exact route_clash.calls k a.f0 a.f1 a.f2 A c a.f3 b.f0 b.f1 b.f2 B d b.f3 _ w ha hc hb hd hk
theorem st_no {l : List S34} {plan : List S37} {i k : Nat} {t0 : Int} (h : ¬ ((rd_T37 plan k).f0 ≠ 0 ∧ clashT (rd_T34 l i) (rd_T34 l k) = true)) : stTo l plan i t0 (k + 1) = stTo l plan i t0 k := by rw [stTo, if_neg h]
theorem st_yes {l : List S34} {plan : List S37} {i k : Nat} {t0 : Int} (h1 : (rd_T37 plan k).f0 ≠ 0) (h2 : clashT (rd_T34 l i) (rd_T34 l k) = true) : stTo l plan i t0 (k + 1) = mx (stTo l plan i t0 k) (rd_T37 plan k).f3 := by rw [stTo, if_pos ⟨h1, h2⟩]
def X40.T5 : Bool × List (List Nat × List Nat) := (true, [([], []), ([0], [0]), ([1], [1]), ([2], [2]), ([3], [3]), ([4, 3], [3, 4]), ([5, 3], [3, 5]), ([6, 3], [3, 6]), ([3], [3]), ([7, 8, 3], [3, 7, 8]), ([9, 3], [3, 9]), ([3], [3]), ([11, 3], [3, 11]), ([12, 3], [3, 12]), ([13, 3], [3, 13]), ([3], [3]), ([14, 15, 3], [3, 14, 15]), ([16, 3], [3, 16]), ([10, 17, 3, 3], [3, 10, 17]), ([3, 18], [3, 18])])
def X40.B5 : List Nat := [0, 1, 3, 7, 15, 31, 63, 127, 15, 511, 1023, 15, 2063, 6159, 14351, 15, 63503, 129039, 262143, 524287]
theorem X40.tab5 : rtab .any (opsOf Try.f40 5) = X40.T5 := by kernel_rfl
theorem X40.bits5 : waitsOk X40.T5.2 X40.B5 = true := by kernel_rfl
set_option maxHeartbeats 4000000 in
set_option maxRecDepth 100000 in
theorem start_calls (l : List S34) (Al : Option Addr) (af ap : Addr) (cl P cf cp : Nat) (sw : Value) (free : List Int) (plan : List S37) (vb : Value) (e : Int) (i g : Nat) (w : World) (hP : w.heap[P]? = some (.cells #[.slice Al l.length cl, sw, .slice (some af) free.length cf, .slice (some ap) plan.length cp, vb, .int .i64 e] 50 (0, 0))) (hl : Kd.C k34 w Al l.length l) (hf : Kd.C (Kd.int .i64) w (some af) free.length free) (hp : Kd.C k37 w (some ap) plan.length plan) (hi : i < l.length) (hg : g < free.length) (hn : plan.length = l.length) :
  Calls Try.prog 40 #[.pointer (some ⟨P, 0, none⟩), .int .i64 i, .int .i64 g] w fun e w' => e = .returned (.int .i64 (stV l plan free i g)) ∧ Below w.heap.size w w' := by
 have hu34 := Try.underlying34
 have hu37 := Try.underlying37
 have hu50 := Try.underlying50
 have hm : l.length ≤ 9223372036854775807 := hl.2.1
 have HL := Aside0.mk hl
 have HF := Aside0.mk hf
 have HPP := Aside0.mk hp
 have HP := Aside0.mk hP
 have zP := blk_lt hP
 have p0 := blk_cell hP 0
 have p1 := blk_cell hP 1
 have p2 := blk_cell hP 2
 have p3 := blk_cell hP 3
 have p4 := blk_cell hP 4
 have p5 := blk_cell hP 5
 simp only [List.getElem?_toArray, List.getElem?_cons_zero, List.getElem?_cons_succ] at p0 p1 p2 p3 p4 p5
 obtain ⟨af_, eF, xf⟩ := Kd.at_int hf (g : Int) (by omega) (by omega)
 injection eF with eF
 subst eF
 rw [Int.toNat_natCast] at xf
 have HB := Aside0.mk (Below.refl w.heap.size w)
 clear hl hf hp hP
 go_enter Try.func40, Try.ntmps40
 go_wp2_with fail
 go_loopw [7, 22] (fun v7 v22 wr => ∃ k : Nat, k ≤ plan.length ∧ v22 = .int .i64 k ∧ v7 = .int .i64 (stTo l plan i (rd free g) k) ∧ Aside0 (Below w.heap.size w wr)) (fun _ v22 _ => plan.length - (intOf v22).toNat)
 case atStart => exact ⟨0, Nat.zero_le _, rfl, rfl, HB⟩
 case round =>
  clear HB
  obtain ⟨k, hk, rfl, rfl, HB⟩ := hrel
  by_cases hlt : k < plan.length
  ·obtain ⟨ap_, eP, xp0, xp1, xp2, xp3⟩ := at_T37 HPP.out (k : Int) (by omega) (by omega)
   injection eP with eP
   subst eP
   rw [Int.toNat_natCast] at xp0 xp1 xp2 xp3
   replace xp0 := (HB.out.cell (World.block_lt_of_cell? w _ xp0)).trans xp0
   replace xp1 := (HB.out.cell (World.block_lt_of_cell? w _ xp1)).trans xp1
   replace xp2 := (HB.out.cell (World.block_lt_of_cell? w _ xp2)).trans xp2
   replace xp3 := (HB.out.cell (World.block_lt_of_cell? w _ xp3)).trans xp3
   obtain ⟨ai, A3, c3, eA, xi0, xi1, xi2, xi3, hci, hii⟩ := at_T34 HL.out (i : Int) (by omega) (by omega)
   rw [Int.toNat_natCast] at xi0 xi1 xi2 xi3
   subst eA
   obtain ⟨ak, A4, c4, eA, xk0, xk1, xk2, xk3, hck, hkk⟩ := at_T34 HL.out (k : Int) (by omega) (by omega)
   injection eA with eA
   subst eA
   rw [Int.toNat_natCast] at xk0 xk1 xk2 xk3
   have HCI := Aside0.mk hci
   have HII := Aside0.mk hii
   have HCK := Aside0.mk hck
   have HKK := Aside0.mk hkk
   have Xi0 := Aside0.mk xi0
   have Xi1 := Aside0.mk xi1
   have Xi2 := Aside0.mk xi2
   have Xi3 := Aside0.mk xi3
   have Xk0 := Aside0.mk xk0
   have Xk1 := Aside0.mk xk1
   have Xk2 := Aside0.mk xk2
   have Xk3 := Aside0.mk xk3
   clear hci hii hck hkk xi0 xi1 xi2 xi3 xk0 xk1 xk2 xk3
   by_cases hz : (rd_T37 plan k).f0 ≠ 0
   ·rcases Bool.eq_false_or_eq_true (clashT (rd_T34 l i) (rd_T34 l k)) with hcl | hcl
    have ST_ := st_yes (t0 := rd free g) hz hcl
    rotate_left
    have ST_ := st_no (t0 := rd free g) (l := l) (plan := plan) (i := i) (k := k) (fun h => by rw [hcl] at h; exact absurd h.2 (by decide))
    all_goals (
     have q0 : ((rd_T37 plan k).f0 != 0) = true := bne_iff_ne.mpr hz
     have q1 : ((rd_T37 plan k).f0 == 0) = false := beq_eq_false_iff_ne.mpr hz
     have ST := Aside0.mk ST_
     clear ST_
     have BX := Aside0.mk (heap_alloc_new wr (.cells #[.int .i64 (rd_T37 plan k).f0, .int .i64 (rd_T37 plan k).f1, .int .i64 (rd_T37 plan k).f2, .int .i64 (rd_T37 plan k).f3] 37 (0, 0)))
     have BPL := Aside0.mk (blk_alloc (blk_below HP.out HB.out) (.cells #[.int .i64 (rd_T37 plan k).f0, .int .i64 (rd_T37 plan k).f1, .int .i64 (rd_T37 plan k).f2, .int .i64 (rd_T37 plan k).f3] 37 (0, 0)))
     have HB1 := Aside0.mk (below_alloc HB.out (.cells #[.int .i64 (rd_T37 plan k).f0, .int .i64 (rd_T37 plan k).f1, .int .i64 (rd_T37 plan k).f2, .int .i64 (rd_T37 plan k).f3] 37 (0, 0)))
     clear hz
     go_wp2_with fail
     clear HB
     have HB := HB1
     clear HB1
     have nX_ := Aside0.mk (blk_drew BX.out)
     have nP_ := Aside0.mk (blk_drew BPL.out)
     have nB_ := Aside0.mk (below_drew1 HB.out)
     clear BX BPL HB
     have BX := nX_
     have BPL := nP_
     have HB := nB_
     clear nX_ nP_ nB_
     refine start_ (n := 20) (S := fun w' => w'.cell? ⟨wr.heap.size, 0, none⟩ = some (.int .i64 (rd_T37 plan k).f0) ∧ w'.cell? ⟨P, 0, none⟩ = some (.slice (some ai) l.length cl) ∧ w'.cell? (ai.add (i * 4)) = some (.int .i64 (rd_T34 l i).f0) ∧ w'.cell? ⟨(ai.add (i * 4)).block, (ai.add (i * 4)).off + 1, none⟩ = some (.int .i64 (rd_T34 l i).f1) ∧ w'.cell? ⟨(ai.add (i * 4)).block, (ai.add (i * 4)).off + 2, none⟩ = some (.bool (rd_T34 l i).f2) ∧ w'.cell? ⟨(ai.add (i * 4)).block, (ai.add (i * 4)).off + 3, none⟩ = some (.slice A3 (rd_T34 l i).f3.length c3) ∧ w'.cell? (ai.add (k * 4)) = some (.int .i64 (rd_T34 l k).f0) ∧ w'.cell? ⟨(ai.add (k * 4)).block, (ai.add (k * 4)).off + 1, none⟩ = some (.int .i64 (rd_T34 l k).f1) ∧ w'.cell? ⟨(ai.add (k * 4)).block, (ai.add (k * 4)).off + 2, none⟩ = some (.bool (rd_T34 l k).f2) ∧ w'.cell? ⟨(ai.add (k * 4)).block, (ai.add (k * 4)).off + 3, none⟩ = some (.slice A4 (rd_T34 l k).f3.length c4)) (ds := []) #[false, false, false, false, false, false, false, false, false, false, false, false, false, false, false, false, false, false, false, false] (by kernel_rfl) rfl rfl ⟨((blk_cell BX.out 0).trans rfl), ((blk_cell BPL.out 0).trans rfl), ((HB.out.cell (World.block_lt_of_cell? w _ Xi0.out)).trans Xi0.out), ((HB.out.cell (World.block_lt_of_cell? w _ Xi1.out)).trans Xi1.out), ((HB.out.cell (World.block_lt_of_cell? w _ Xi2.out)).trans Xi2.out), ((HB.out.cell (World.block_lt_of_cell? w _ Xi3.out)).trans Xi3.out), ((HB.out.cell (World.block_lt_of_cell? w _ Xk0.out)).trans Xk0.out), ((HB.out.cell (World.block_lt_of_cell? w _ Xk1.out)).trans Xk1.out), ((HB.out.cell (World.block_lt_of_cell? w _ Xk2.out)).trans Xk2.out), ((HB.out.cell (World.block_lt_of_cell? w _ Xk3.out)).trans Xk3.out)⟩ (fun hHeld => ?_)
     refine with_tabW X40.tab5 X40.bits5 (fun HT_ HW_ => ?_)
     generalize (wr.alloc (.cells #[.int .i64 (rd_T37 plan k).f0, .int .i64 (rd_T37 plan k).f1, .int .i64 (rd_T37 plan k).f2, .int .i64 (rd_T37 plan k).f3] 37 (0, 0))).drew = wd at BX BPL HB hHeld ⊢
     refine pure_ (i := 0) (N := some 27) (v := ?_) (a' := ?_) #[true, false, false, false, false, false, false, false, false, false, false, false, false, false, false, false, false, false, false, false] rfl rfl (any_of HT_.out (by kernel_rfl)) (fun _ _ _ h => h) (Or.inl ⟨by rfl, ?_⟩) ?_ ?_
     rotate_left
     ·intro w'
      go_simp
      with_reducible rfl
     rotate_left
     ·simp only [Act.put, List.setIfInBounds_toArray, List.set_cons_zero, List.set_cons_succ, i64_w, i32_w]
      rfl
     refine take_ (i := 1) (N := some 28) (v := ?_) (a' := ?_) #[true, true, false, false, false, false, false, false, false, false, false, false, false, false, false, false, false, false, false, false] rfl rfl (take_ofW HT_.out HW_.out (by kernel_rfl)) (fun _ _ _ h => h) (Or.inl ⟨by rfl, ?_⟩) hHeld ?_ ?_
     rotate_left
     ·rintro w' ⟨s0, s1, s2, s3, s4, s5, s6, s7, s8, s9⟩
      go_simp
      with_reducible rfl
     rotate_left
     ·simp only [Act.put, List.setIfInBounds_toArray, List.set_cons_zero, List.set_cons_succ, i64_w, i32_w]
      rfl
     refine pure_ (i := 2) (N := some 29) (v := ?_) (a' := ?_) #[true, true, true, false, false, false, false, false, false, false, false, false, false, false, false, false, false, false, false, false] rfl rfl (any_of HT_.out (by kernel_rfl)) (fun _ _ _ h => h) (Or.inl ⟨by rfl, ?_⟩) ?_ ?_
     rotate_left
     ·intro w'
      go_simp
      with_reducible rfl
     rotate_left
     ·simp only [Act.put, List.setIfInBounds_toArray, List.set_cons_zero, List.set_cons_succ, i64_w, i32_w]
      rfl
     refine pure_ (i := 3) (N := some 30) (v := ?_) (a' := ?_) #[true, true, true, true, false, false, false, false, false, false, false, false, false, false, false, false, false, false, false, false] rfl rfl (any_of HT_.out (by kernel_rfl)) (fun _ _ _ h => h) (Or.inl ⟨by rfl, ?_⟩) ?_ ?_
     rotate_left
     ·intro w'
      go_simp
      with_reducible rfl
     rotate_left
     ·simp only [Act.put, List.setIfInBounds_toArray, List.set_cons_zero, List.set_cons_succ, i64_w, i32_w]
      rfl
     refine pure_ (i := 4) (N := some 31) (v := ?_) (a' := ?_) #[true, true, true, true, true, false, false, false, false, false, false, false, false, false, false, false, false, false, false, false] rfl rfl (any_of HT_.out (by kernel_rfl)) (fun _ _ _ h => h) (Or.inl ⟨by rfl, ?_⟩) ?_ ?_
     rotate_left
     ·intro w'
      go_simp
      with_reducible rfl
     rotate_left
     ·simp only [Act.put, List.setIfInBounds_toArray, List.set_cons_zero, List.set_cons_succ, i64_w, i32_w]
      rfl
     refine pure_ (i := 5) (N := some 32) (v := ?_) (a' := ?_) #[true, true, true, true, true, true, false, false, false, false, false, false, false, false, false, false, false, false, false, false] rfl rfl (any_of HT_.out (by kernel_rfl)) (fun _ _ _ h => h) (Or.inl ⟨by rfl, ?_⟩) ?_ ?_
     rotate_left
     ·intro w'
      go_simp
      with_reducible rfl
     rotate_left
     ·simp only [Act.put, List.setIfInBounds_toArray, List.set_cons_zero, List.set_cons_succ, i64_w, i32_w]
      rfl
     refine pure_ (i := 6) (N := some 33) (v := ?_) (a' := ?_) #[true, true, true, true, true, true, true, false, false, false, false, false, false, false, false, false, false, false, false, false] rfl rfl (any_of HT_.out (by kernel_rfl)) (fun _ _ _ h => h) (Or.inl ⟨by rfl, ?_⟩) ?_ ?_
     rotate_left
     ·intro w'
      go_simp
      with_reducible rfl
     rotate_left
     ·simp only [Act.put, List.setIfInBounds_toArray, List.set_cons_zero, List.set_cons_succ, i64_w, i32_w]
      rfl
     refine pure_ (i := 8) (N := some 35) (v := ?_) (a' := ?_) #[true, true, true, true, true, true, true, false, true, false, false, false, false, false, false, false, false, false, false, false] rfl rfl (any_of HT_.out (by kernel_rfl)) (fun _ _ _ h => h) (Or.inl ⟨by rfl, ?_⟩) ?_ ?_
     rotate_left
     ·intro w'
      go_simp
      with_reducible rfl
     rotate_left
     ·simp only [Act.put, List.setIfInBounds_toArray, List.set_cons_zero, List.set_cons_succ, i64_w, i32_w]
      rfl
     refine pure_ (i := 11) (N := some 38) (v := ?_) (a' := ?_) #[true, true, true, true, true, true, true, false, true, false, false, true, false, false, false, false, false, false, false, false] rfl rfl (any_of HT_.out (by kernel_rfl)) (fun _ _ _ h => h) (Or.inl ⟨by rfl, ?_⟩) ?_ ?_
     rotate_left
     ·intro w'
      go_simp
      with_reducible rfl
     rotate_left
     ·simp only [Act.put, List.setIfInBounds_toArray, List.set_cons_zero, List.set_cons_succ, i64_w, i32_w]
      rfl
     refine pure_ (i := 12) (N := some 39) (v := ?_) (a' := ?_) #[true, true, true, true, true, true, true, false, true, false, false, true, true, false, false, false, false, false, false, false] rfl rfl (any_of HT_.out (by kernel_rfl)) (fun _ _ _ h => h) (Or.inl ⟨by rfl, ?_⟩) ?_ ?_
     rotate_left
     ·intro w'
      go_simp
      with_reducible rfl
     rotate_left
     ·simp only [Act.put, List.setIfInBounds_toArray, List.set_cons_zero, List.set_cons_succ, i64_w, i32_w]
      rfl
     refine pure_ (i := 13) (N := some 40) (v := ?_) (a' := ?_) #[true, true, true, true, true, true, true, false, true, false, false, true, true, true, false, false, false, false, false, false] rfl rfl (any_of HT_.out (by kernel_rfl)) (fun _ _ _ h => h) (Or.inl ⟨by rfl, ?_⟩) ?_ ?_
     rotate_left
     ·intro w'
      go_simp
      with_reducible rfl
     rotate_left
     ·simp only [Act.put, List.setIfInBounds_toArray, List.set_cons_zero, List.set_cons_succ, i64_w, i32_w]
      rfl
     refine pure_ (i := 15) (N := some 42) (v := ?_) (a' := ?_) #[true, true, true, true, true, true, true, false, true, false, false, true, true, true, false, true, false, false, false, false] rfl rfl (any_of HT_.out (by kernel_rfl)) (fun _ _ _ h => h) (Or.inl ⟨by rfl, ?_⟩) ?_ ?_
     rotate_left
     ·intro w'
      go_simp
      with_reducible rfl
     rotate_left
     ·simp only [Act.put, List.setIfInBounds_toArray, List.set_cons_zero, List.set_cons_succ, i64_w, i32_w]
      rfl
     refine take_ (i := 7) (N := some 34) (v := ?_) (a' := ?_) #[true, true, true, true, true, true, true, true, true, false, false, true, true, true, false, true, false, false, false, false] rfl rfl (take_ofW HT_.out HW_.out (by kernel_rfl)) (fun _ _ _ h => h) (Or.inl ⟨by rfl, ?_⟩) hHeld ?_ ?_
     rotate_left
     ·rintro w' ⟨s0, s1, s2, s3, s4, s5, s6, s7, s8, s9⟩
      go_simp
      with_reducible rfl
     rotate_left
     ·simp only [Act.put, List.setIfInBounds_toArray, List.set_cons_zero, List.set_cons_succ, i64_w, i32_w]
      rfl
     refine pure_ (i := 9) (N := some 36) (v := ?_) (a' := ?_) #[true, true, true, true, true, true, true, true, true, true, false, true, true, true, false, true, false, false, false, false] rfl rfl (any_of HT_.out (by kernel_rfl)) (fun _ _ _ h => h) (Or.inl ⟨by rfl, ?_⟩) ?_ ?_
     rotate_left
     ·intro w'
      go_simp
      with_reducible rfl
     rotate_left
     ·simp only [Act.put, List.setIfInBounds_toArray, List.set_cons_zero, List.set_cons_succ, i64_w, i32_w]
      rfl
     refine take_ (i := 10) (N := some 37) (v := ?_) (a' := ?_) #[true, true, true, true, true, true, true, true, true, true, true, true, true, true, false, true, false, false, false, false] rfl rfl (take_ofW HT_.out HW_.out (by kernel_rfl)) (fun _ _ _ h => h) (Or.inl ⟨by rfl, ?_⟩) hHeld ?_ ?_
     rotate_left
     ·rintro w' ⟨s0, s1, s2, s3, s4, s5, s6, s7, s8, s9⟩
      go_simp
      with_reducible rfl
     rotate_left
     ·simp only [Act.put, List.setIfInBounds_toArray, List.set_cons_zero, List.set_cons_succ, i64_w, i32_w]
      rfl
     refine take_ (i := 14) (N := some 41) (v := ?_) (a' := ?_) #[true, true, true, true, true, true, true, true, true, true, true, true, true, true, true, true, false, false, false, false] rfl rfl (take_ofW HT_.out HW_.out (by kernel_rfl)) (fun _ _ _ h => h) (Or.inl ⟨by rfl, ?_⟩) hHeld ?_ ?_
     rotate_left
     ·rintro w' ⟨s0, s1, s2, s3, s4, s5, s6, s7, s8, s9⟩
      go_simp
      with_reducible rfl
     rotate_left
     ·simp only [Act.put, List.setIfInBounds_toArray, List.set_cons_zero, List.set_cons_succ, i64_w, i32_w]
      rfl
     refine pure_ (i := 16) (N := some 43) (v := ?_) (a' := ?_) #[true, true, true, true, true, true, true, true, true, true, true, true, true, true, true, true, true, false, false, false] rfl rfl (any_of HT_.out (by kernel_rfl)) (fun _ _ _ h => h) (Or.inl ⟨by rfl, ?_⟩) ?_ ?_
     rotate_left
     ·intro w'
      go_simp
      with_reducible rfl
     rotate_left
     ·simp only [Act.put, List.setIfInBounds_toArray, List.set_cons_zero, List.set_cons_succ, i64_w, i32_w]
      rfl
     refine take_ (i := 17) (N := some 44) (v := ?_) (a' := ?_) #[true, true, true, true, true, true, true, true, true, true, true, true, true, true, true, true, true, true, false, false] rfl rfl (take_ofW HT_.out HW_.out (by kernel_rfl)) (fun _ _ _ h => h) (Or.inl ⟨by rfl, ?_⟩) hHeld ?_ ?_
     rotate_left
     ·rintro w' ⟨s0, s1, s2, s3, s4, s5, s6, s7, s8, s9⟩
      go_simp
      with_reducible rfl
     rotate_left
     ·simp only [Act.put, List.setIfInBounds_toArray, List.set_cons_zero, List.set_cons_succ, i64_w, i32_w]
      rfl
     refine one_ (i := 18) (N := some 45) #[true, true, true, true, true, true, true, true, true, true, true, true, true, true, true, true, true, true, true, false] rfl rfl (one_of HT_.out (by kernel_rfl)) (by decide) (fun K hK => ?_)
     refine goes_ Try.func27 (by kernel_rfl) rfl #[.agg #[.int .i64 (rd_T34 l i).f0, .int .i64 (rd_T34 l i).f1, .bool (rd_T34 l i).f2, .slice A3 (rd_T34 l i).f3.length c3], .agg #[.int .i64 (rd_T34 l k).f0, .int .i64 (rd_T34 l k).f1, .bool (rd_T34 l k).f2, .slice A4 (rd_T34 l k).f3.length c4]] (by rfl) rfl rfl (by simp only [List.map_toArray, List.map_cons, List.map_nil]; rfl) ?_
     with_reducible refine (clash_calls (rd_T34 l i) (rd_T34 l k) A3 A4 c3 c4 _ (Kd.C_below HII.out HB.out) HCI.out (Kd.C_below HKK.out HB.out) HCK.out).mono ?_
     rintro e wz ⟨rfl, hb⟩
     refine ⟨_, rfl, ?_⟩
     have nX_ := Aside0.mk (blk_below BX.out hb)
     have nP_ := Aside0.mk (blk_below BPL.out hb)
     have nB_ := Aside0.mk (below_step HB.out hb)
     clear BX BPL HB hb
     have BX := nX_
     have BPL := nP_
     have HB := nB_
     clear nX_ nP_ nB_
     refine hK.out _ _ ⟨((blk_cell BX.out 0).trans rfl), ((blk_cell BPL.out 0).trans rfl), ((HB.out.cell (World.block_lt_of_cell? w _ Xi0.out)).trans Xi0.out), ((HB.out.cell (World.block_lt_of_cell? w _ Xi1.out)).trans Xi1.out), ((HB.out.cell (World.block_lt_of_cell? w _ Xi2.out)).trans Xi2.out), ((HB.out.cell (World.block_lt_of_cell? w _ Xi3.out)).trans Xi3.out), ((HB.out.cell (World.block_lt_of_cell? w _ Xk0.out)).trans Xk0.out), ((HB.out.cell (World.block_lt_of_cell? w _ Xk1.out)).trans Xk1.out), ((HB.out.cell (World.block_lt_of_cell? w _ Xk2.out)).trans Xk2.out), ((HB.out.cell (World.block_lt_of_cell? w _ Xk3.out)).trans Xk3.out)⟩ (fun hHeld => ?_)
     clear hK K
     refine norm_ (a' := ?_) ?_ ?_
     rotate_left
     ·show Act.put _ (some 45) _ = _
      simp only [Act.put, List.setIfInBounds_toArray, List.set_cons_zero, List.set_cons_succ, i64_w, i32_w]
      rfl
     refine pure_ (i := 19) (N := some 46) (v := ?_) (a' := ?_) #[true, true, true, true, true, true, true, true, true, true, true, true, true, true, true, true, true, true, true, true] rfl rfl (any_of HT_.out (by kernel_rfl)) (fun _ _ _ h => h) (Or.inl ⟨by rfl, ?_⟩) ?_ ?_
     rotate_left
     ·intro w'
      go_simp
      with_reducible rfl
     rotate_left
     ·simp only [Act.put, List.setIfInBounds_toArray, List.set_cons_zero, List.set_cons_succ, i64_w, i32_w]
      rfl
     refine done_ (done_of HT_.out (by kernel_rfl)) ?_
     try simp only [hcl]
     have sx := (blk_cell BX.out 3)
     simp only [List.getElem?_toArray, List.getElem?_cons_zero, List.getElem?_cons_succ] at sx
     try go_wp2
     all_goals exact ⟨⟨k + 1, hlt, rfl, by first | (rw [ST.out]; done) | (rw [ST.out]; rfl) | (rw [ST.out]; simp [mx]; done), HB⟩, by simp [intOf]; omega⟩
    )
   ·replace hz : (rd_T37 plan k).f0 = 0 := Classical.not_not.1 hz
    have q0 : ((rd_T37 plan k).f0 != 0) = false := by simpa using hz
    have q1 : ((rd_T37 plan k).f0 == 0) = true := by simpa using hz
    have ST := Aside0.mk (st_no (t0 := rd free g) (l := l) (plan := plan) (i := i) (k := k) (fun h => h.1 hz))
    have BX := Aside0.mk (heap_alloc_new wr (.cells #[.int .i64 (rd_T37 plan k).f0, .int .i64 (rd_T37 plan k).f1, .int .i64 (rd_T37 plan k).f2, .int .i64 (rd_T37 plan k).f3] 37 (0, 0)))
    have BPL := Aside0.mk (blk_alloc (blk_below HP.out HB.out) (.cells #[.int .i64 (rd_T37 plan k).f0, .int .i64 (rd_T37 plan k).f1, .int .i64 (rd_T37 plan k).f2, .int .i64 (rd_T37 plan k).f3] 37 (0, 0)))
    have HB1 := Aside0.mk (below_alloc HB.out (.cells #[.int .i64 (rd_T37 plan k).f0, .int .i64 (rd_T37 plan k).f1, .int .i64 (rd_T37 plan k).f2, .int .i64 (rd_T37 plan k).f3] 37 (0, 0)))
    clear hz
    go_wp2_with fail
    clear HB
    have HB := HB1
    clear HB1
    have nX_ := Aside0.mk (blk_drew BX.out)
    have nP_ := Aside0.mk (blk_drew BPL.out)
    have nB_ := Aside0.mk (below_drew1 HB.out)
    clear BX BPL HB
    have BX := nX_
    have BPL := nP_
    have HB := nB_
    clear nX_ nP_ nB_
    refine start_ (n := 20) (S := fun w' => w'.cell? ⟨wr.heap.size, 0, none⟩ = some (.int .i64 (rd_T37 plan k).f0) ∧ w'.cell? ⟨P, 0, none⟩ = some (.slice (some ai) l.length cl) ∧ w'.cell? (ai.add (i * 4)) = some (.int .i64 (rd_T34 l i).f0) ∧ w'.cell? ⟨(ai.add (i * 4)).block, (ai.add (i * 4)).off + 1, none⟩ = some (.int .i64 (rd_T34 l i).f1) ∧ w'.cell? ⟨(ai.add (i * 4)).block, (ai.add (i * 4)).off + 2, none⟩ = some (.bool (rd_T34 l i).f2) ∧ w'.cell? ⟨(ai.add (i * 4)).block, (ai.add (i * 4)).off + 3, none⟩ = some (.slice A3 (rd_T34 l i).f3.length c3) ∧ w'.cell? (ai.add (k * 4)) = some (.int .i64 (rd_T34 l k).f0) ∧ w'.cell? ⟨(ai.add (k * 4)).block, (ai.add (k * 4)).off + 1, none⟩ = some (.int .i64 (rd_T34 l k).f1) ∧ w'.cell? ⟨(ai.add (k * 4)).block, (ai.add (k * 4)).off + 2, none⟩ = some (.bool (rd_T34 l k).f2) ∧ w'.cell? ⟨(ai.add (k * 4)).block, (ai.add (k * 4)).off + 3, none⟩ = some (.slice A4 (rd_T34 l k).f3.length c4)) (ds := []) #[false, false, false, false, false, false, false, false, false, false, false, false, false, false, false, false, false, false, false, false] (by kernel_rfl) rfl rfl ⟨((blk_cell BX.out 0).trans rfl), ((blk_cell BPL.out 0).trans rfl), ((HB.out.cell (World.block_lt_of_cell? w _ Xi0.out)).trans Xi0.out), ((HB.out.cell (World.block_lt_of_cell? w _ Xi1.out)).trans Xi1.out), ((HB.out.cell (World.block_lt_of_cell? w _ Xi2.out)).trans Xi2.out), ((HB.out.cell (World.block_lt_of_cell? w _ Xi3.out)).trans Xi3.out), ((HB.out.cell (World.block_lt_of_cell? w _ Xk0.out)).trans Xk0.out), ((HB.out.cell (World.block_lt_of_cell? w _ Xk1.out)).trans Xk1.out), ((HB.out.cell (World.block_lt_of_cell? w _ Xk2.out)).trans Xk2.out), ((HB.out.cell (World.block_lt_of_cell? w _ Xk3.out)).trans Xk3.out)⟩ (fun hHeld => ?_)
    refine with_tabW X40.tab5 X40.bits5 (fun HT_ HW_ => ?_)
    generalize (wr.alloc (.cells #[.int .i64 (rd_T37 plan k).f0, .int .i64 (rd_T37 plan k).f1, .int .i64 (rd_T37 plan k).f2, .int .i64 (rd_T37 plan k).f3] 37 (0, 0))).drew = wd at BX BPL HB hHeld ⊢
    refine pure_ (i := 0) (N := some 27) (v := ?_) (a' := ?_) #[true, false, false, false, false, false, false, false, false, false, false, false, false, false, false, false, false, false, false, false] rfl rfl (any_of HT_.out (by kernel_rfl)) (fun _ _ _ h => h) (Or.inl ⟨by rfl, ?_⟩) ?_ ?_
    rotate_left
    ·intro w'
     go_simp
     with_reducible rfl
    rotate_left
    ·simp only [Act.put, List.setIfInBounds_toArray, List.set_cons_zero, List.set_cons_succ, i64_w, i32_w]
     rfl
    refine take_ (i := 1) (N := some 28) (v := ?_) (a' := ?_) #[true, true, false, false, false, false, false, false, false, false, false, false, false, false, false, false, false, false, false, false] rfl rfl (take_ofW HT_.out HW_.out (by kernel_rfl)) (fun _ _ _ h => h) (Or.inl ⟨by rfl, ?_⟩) hHeld ?_ ?_
    rotate_left
    ·rintro w' ⟨s0, s1, s2, s3, s4, s5, s6, s7, s8, s9⟩
     go_simp
     with_reducible rfl
    rotate_left
    ·simp only [Act.put, List.setIfInBounds_toArray, List.set_cons_zero, List.set_cons_succ, i64_w, i32_w]
     rfl
    refine pure_ (i := 2) (N := some 29) (v := ?_) (a' := ?_) #[true, true, true, false, false, false, false, false, false, false, false, false, false, false, false, false, false, false, false, false] rfl rfl (any_of HT_.out (by kernel_rfl)) (fun _ _ _ h => h) (Or.inl ⟨by rfl, ?_⟩) ?_ ?_
    rotate_left
    ·intro w'
     go_simp
     with_reducible rfl
    rotate_left
    ·simp only [Act.put, List.setIfInBounds_toArray, List.set_cons_zero, List.set_cons_succ, i64_w, i32_w]
     rfl
    refine pure_ (i := 3) (N := some 30) (v := ?_) (a' := ?_) #[true, true, true, true, false, false, false, false, false, false, false, false, false, false, false, false, false, false, false, false] rfl rfl (any_of HT_.out (by kernel_rfl)) (fun _ _ _ h => h) (Or.inl ⟨by rfl, ?_⟩) ?_ ?_
    rotate_left
    ·intro w'
     go_simp
     with_reducible rfl
    rotate_left
    ·simp only [Act.put, List.setIfInBounds_toArray, List.set_cons_zero, List.set_cons_succ, i64_w, i32_w]
     rfl
    refine pure_ (i := 4) (N := some 31) (v := undef) (a' := ?_) #[true, true, true, true, true, false, false, false, false, false, false, false, false, false, false, false, false, false, false, false] rfl rfl (any_of HT_.out (by kernel_rfl)) (fun _ _ _ h => h) (Or.inr ⟨by rfl, rfl⟩) ?_ ?_
    rotate_left
    ·simp only [Act.put, List.setIfInBounds_toArray, List.set_cons_zero, List.set_cons_succ, i64_w, i32_w]
     rfl
    refine pure_ (i := 5) (N := some 32) (v := undef) (a' := ?_) #[true, true, true, true, true, true, false, false, false, false, false, false, false, false, false, false, false, false, false, false] rfl rfl (any_of HT_.out (by kernel_rfl)) (fun _ _ _ h => h) (Or.inr ⟨by rfl, rfl⟩) ?_ ?_
    rotate_left
    ·simp only [Act.put, List.setIfInBounds_toArray, List.set_cons_zero, List.set_cons_succ, i64_w, i32_w]
     rfl
    refine pure_ (i := 6) (N := some 33) (v := undef) (a' := ?_) #[true, true, true, true, true, true, true, false, false, false, false, false, false, false, false, false, false, false, false, false] rfl rfl (any_of HT_.out (by kernel_rfl)) (fun _ _ _ h => h) (Or.inr ⟨by rfl, rfl⟩) ?_ ?_
    rotate_left
    ·simp only [Act.put, List.setIfInBounds_toArray, List.set_cons_zero, List.set_cons_succ, i64_w, i32_w]
     rfl
    refine pure_ (i := 7) (N := some 34) (v := undef) (a' := ?_) #[true, true, true, true, true, true, true, true, false, false, false, false, false, false, false, false, false, false, false, false] rfl rfl (any_of HT_.out (by kernel_rfl)) (fun _ _ _ h => h) (Or.inr ⟨by rfl, rfl⟩) ?_ ?_
    rotate_left
    ·simp only [Act.put, List.setIfInBounds_toArray, List.set_cons_zero, List.set_cons_succ, i64_w, i32_w]
     rfl
    refine pure_ (i := 8) (N := some 35) (v := undef) (a' := ?_) #[true, true, true, true, true, true, true, true, true, false, false, false, false, false, false, false, false, false, false, false] rfl rfl (any_of HT_.out (by kernel_rfl)) (fun _ _ _ h => h) (Or.inr ⟨by rfl, rfl⟩) ?_ ?_
    rotate_left
    ·simp only [Act.put, List.setIfInBounds_toArray, List.set_cons_zero, List.set_cons_succ, i64_w, i32_w]
     rfl
    refine pure_ (i := 9) (N := some 36) (v := undef) (a' := ?_) #[true, true, true, true, true, true, true, true, true, true, false, false, false, false, false, false, false, false, false, false] rfl rfl (any_of HT_.out (by kernel_rfl)) (fun _ _ _ h => h) (Or.inr ⟨by rfl, rfl⟩) ?_ ?_
    rotate_left
    ·simp only [Act.put, List.setIfInBounds_toArray, List.set_cons_zero, List.set_cons_succ, i64_w, i32_w]
     rfl
    refine pure_ (i := 10) (N := some 37) (v := undef) (a' := ?_) #[true, true, true, true, true, true, true, true, true, true, true, false, false, false, false, false, false, false, false, false] rfl rfl (any_of HT_.out (by kernel_rfl)) (fun _ _ _ h => h) (Or.inr ⟨by rfl, rfl⟩) ?_ ?_
    rotate_left
    ·simp only [Act.put, List.setIfInBounds_toArray, List.set_cons_zero, List.set_cons_succ, i64_w, i32_w]
     rfl
    refine pure_ (i := 11) (N := some 38) (v := undef) (a' := ?_) #[true, true, true, true, true, true, true, true, true, true, true, true, false, false, false, false, false, false, false, false] rfl rfl (any_of HT_.out (by kernel_rfl)) (fun _ _ _ h => h) (Or.inr ⟨by rfl, rfl⟩) ?_ ?_
    rotate_left
    ·simp only [Act.put, List.setIfInBounds_toArray, List.set_cons_zero, List.set_cons_succ, i64_w, i32_w]
     rfl
    refine pure_ (i := 12) (N := some 39) (v := undef) (a' := ?_) #[true, true, true, true, true, true, true, true, true, true, true, true, true, false, false, false, false, false, false, false] rfl rfl (any_of HT_.out (by kernel_rfl)) (fun _ _ _ h => h) (Or.inr ⟨by rfl, rfl⟩) ?_ ?_
    rotate_left
    ·simp only [Act.put, List.setIfInBounds_toArray, List.set_cons_zero, List.set_cons_succ, i64_w, i32_w]
     rfl
    refine pure_ (i := 13) (N := some 40) (v := undef) (a' := ?_) #[true, true, true, true, true, true, true, true, true, true, true, true, true, true, false, false, false, false, false, false] rfl rfl (any_of HT_.out (by kernel_rfl)) (fun _ _ _ h => h) (Or.inr ⟨by rfl, rfl⟩) ?_ ?_
    rotate_left
    ·simp only [Act.put, List.setIfInBounds_toArray, List.set_cons_zero, List.set_cons_succ, i64_w, i32_w]
     rfl
    refine pure_ (i := 14) (N := some 41) (v := undef) (a' := ?_) #[true, true, true, true, true, true, true, true, true, true, true, true, true, true, true, false, false, false, false, false] rfl rfl (any_of HT_.out (by kernel_rfl)) (fun _ _ _ h => h) (Or.inr ⟨by rfl, rfl⟩) ?_ ?_
    rotate_left
    ·simp only [Act.put, List.setIfInBounds_toArray, List.set_cons_zero, List.set_cons_succ, i64_w, i32_w]
     rfl
    refine pure_ (i := 15) (N := some 42) (v := undef) (a' := ?_) #[true, true, true, true, true, true, true, true, true, true, true, true, true, true, true, true, false, false, false, false] rfl rfl (any_of HT_.out (by kernel_rfl)) (fun _ _ _ h => h) (Or.inr ⟨by rfl, rfl⟩) ?_ ?_
    rotate_left
    ·simp only [Act.put, List.setIfInBounds_toArray, List.set_cons_zero, List.set_cons_succ, i64_w, i32_w]
     rfl
    refine pure_ (i := 16) (N := some 43) (v := undef) (a' := ?_) #[true, true, true, true, true, true, true, true, true, true, true, true, true, true, true, true, true, false, false, false] rfl rfl (any_of HT_.out (by kernel_rfl)) (fun _ _ _ h => h) (Or.inr ⟨by rfl, rfl⟩) ?_ ?_
    rotate_left
    ·simp only [Act.put, List.setIfInBounds_toArray, List.set_cons_zero, List.set_cons_succ, i64_w, i32_w]
     rfl
    refine pure_ (i := 17) (N := some 44) (v := undef) (a' := ?_) #[true, true, true, true, true, true, true, true, true, true, true, true, true, true, true, true, true, true, false, false] rfl rfl (any_of HT_.out (by kernel_rfl)) (fun _ _ _ h => h) (Or.inr ⟨by rfl, rfl⟩) ?_ ?_
    rotate_left
    ·simp only [Act.put, List.setIfInBounds_toArray, List.set_cons_zero, List.set_cons_succ, i64_w, i32_w]
     rfl
    refine pure_ (i := 18) (N := some 45) (v := undef) (a' := ?_) #[true, true, true, true, true, true, true, true, true, true, true, true, true, true, true, true, true, true, true, false] rfl rfl (any_of HT_.out (by kernel_rfl)) (fun _ _ _ h => h) (Or.inr ⟨by rfl, rfl⟩) ?_ ?_
    rotate_left
    ·simp only [Act.put, List.setIfInBounds_toArray, List.set_cons_zero, List.set_cons_succ, i64_w, i32_w]
     rfl
    refine pure_ (i := 19) (N := some 46) (v := ?_) (a' := ?_) #[true, true, true, true, true, true, true, true, true, true, true, true, true, true, true, true, true, true, true, true] rfl rfl (any_of HT_.out (by kernel_rfl)) (fun _ _ _ h => h) (Or.inl ⟨by rfl, ?_⟩) ?_ ?_
    rotate_left
    ·intro w'
     go_simp
     with_reducible rfl
    rotate_left
    ·simp only [Act.put, List.setIfInBounds_toArray, List.set_cons_zero, List.set_cons_succ, i64_w, i32_w]
     rfl
    refine done_ (done_of HT_.out (by kernel_rfl)) ?_
    try go_wp2
    all_goals exact ⟨⟨k + 1, hlt, rfl, by first | (rw [ST.out]; done) | (rw [ST.out]; rfl) | (rw [ST.out]; simp [mx]; done), HB⟩, by simp [intOf]; omega⟩
  ·obtain rfl : k = plan.length := by omega
   go_wp2
   go_ret
   exact ⟨by first | rfl | (simp; done), HB.out⟩

end Go.Proofs.Yticfgecicmgpeaa.A
