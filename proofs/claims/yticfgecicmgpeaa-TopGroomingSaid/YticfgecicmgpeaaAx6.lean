-- PRINTED by print.py (a twelfth state) out of the translation. Not trusted: Lean checks it.
import Derived.Test.YticfgecicmgpeaaAx0
import Derived.Test.YticfgecicmgpeaaAx1
import Derived.Test.YticfgecicmgpeaaAx5
namespace Go.Proofs.Yticfgecicmgpeaa.A
open Go.RowKit Go.Proofs.YticfgecicmgpeaaW.PrintWords Go.Proofs.YticfgecicmgpeaaW.PrintLast Go.Proofs.YticfgecicmgpeaaW.PrintMore
attribute [local go_sem] max2_int min2_int max_two min_two max_three min_three max_four min_four   -- for this text's walks alone
set_option linter.unusedVariables false
set_option linter.unusedSimpArgs false

/-! ### route_planner_search: function 25 -/
def cells37 (x : S37) : List Value := [.int .i64 x.f0, .int .i64 x.f1, .int .i64 x.f2, .int .i64 x.f3]
def flat37 (xs : List S37) : List Value := xs.flatMap cells37
theorem flat37_len (xs : List S37) : (flat37 xs).length = xs.length * 4 := by
 induction xs with
 | nil => rfl
 | cons x xs ih => simp only [flat37, List.flatMap_cons, List.length_append, List.length_cons] at ih ⊢; rw [ih]; simp [cells37]; omega
theorem flat37_at : ∀ (xs : List S37) (j : Nat) (x : S37), xs[j]? = some x → ((flat37 xs).drop (j * 4)).take 4 = cells37 x
 | [], j, x, h => by simp at h
 | y :: ys, 0, x, h => by simp at h; subst h; rfl
 | y :: ys, j + 1, x, h => by
  have ih := flat37_at ys j x (by simpa using h)
  have e : (j + 1) * 4 = (cells37 y).length + j * 4 := by simp [cells37]; omega
  rw [flat37, List.flatMap_cons, e, List.drop_append, ← flat37, List.drop_of_length_le (Nat.le_add_right _ _), List.nil_append, Nat.add_sub_cancel_left]
  exact ih
theorem flat37_set : ∀ (xs : List S37) (j : Nat) (x : S37), j < xs.length → (flat37 xs).take (j * 4) ++ cells37 x ++ (flat37 xs).drop (j * 4 + 4) = flat37 (xs.set j x)
 | [], j, x, h => by simp at h
 | y :: ys, 0, x, h => by simp [flat37, cells37]
 | y :: ys, j + 1, x, h => by
  have ih := flat37_set ys j x (by simpa using h)
  have e : (j + 1) * 4 = (cells37 y).length + j * 4 := by simp [cells37]; omega
  have e2 : (j + 1) * 4 + 4 = (cells37 y).length + (j * 4 + 4) := by simp [cells37]; omega
  rw [e2, e, List.set_cons_succ, flat37, flat37, List.flatMap_cons, List.flatMap_cons, ← flat37, ← flat37, ← ih, List.drop_append, List.take_append, List.drop_of_length_le (Nat.le_add_right _ _), List.take_of_length_le (Nat.le_add_right _ _), List.nil_append, Nat.add_sub_cancel_left, Nat.add_sub_cancel_left, List.append_assoc, List.append_assoc, List.append_assoc]
theorem C_lit {α : Type} {d : Kd α} {W : World} {g : Nat} {t : TypeId} {fr : Nat × Nat} {cs : Array Value} (h : W.heap[g]? = some (.cells cs t fr)) (xs : List α) (hR : Reps (d.K W) d.sz xs cs.toList) (hm : xs.length ≤ 9223372036854775807) : d.C W (some ⟨g, 0, none⟩) xs.length xs := by
 refine ⟨rfl, hm, fun _ => ⟨_, rfl, fun j p hj => ?_⟩⟩
 have hjl := (List.getElem?_eq_some_iff.1 hj).1
 have h1 : j * d.sz + d.sz ≤ cs.toList.length := by rw [hR.1, ← Nat.succ_mul]; exact Nat.mul_le_mul_right _ hjl
 refine ⟨(cs.toList.drop (j * d.sz)).take d.sz, by rw [List.length_take, List.length_drop]; omega, hR.2 j p hj, fun i u hu => ?_⟩
 rw [add_plain, cell_of_row W g _ cs t fr h]
 rw [List.getElem?_take] at hu
 split at hu
 ·rw [List.getElem?_drop] at hu
  simpa using hu
 ·cases hu
theorem reps_ints (W : World) (xs : List Int) : Reps ((Kd.int .i64).K W) (Kd.int .i64).sz xs (xs.map (Value.int .i64)) := by
 refine ⟨by simp [Kd.int, Kd.scalar], fun j p hj => ?_⟩
 have hjl := (List.getElem?_eq_some_iff.1 hj).1
 show ((xs.map (Value.int .i64)).drop (j * 1)).take 1 = [.int .i64 p]
 rw [Nat.mul_one, List.drop_eq_getElem_cons (by simpa using hjl)]
 rw [List.getElem?_eq_getElem hjl] at hj
 simp at hj
 simp [hj]
theorem C_ints {W : World} {g : Nat} {t : TypeId} {fr : Nat × Nat} (xs : List Int) (h : W.heap[g]? = some (.cells (xs.map (Value.int .i64)).toArray t fr)) (hm : xs.length ≤ 9223372036854775807) : (Kd.int .i64).C W (some ⟨g, 0, none⟩) xs.length xs :=
 C_lit h xs (by simpa using reps_ints W xs) hm
theorem C_flat {W : World} {g : Nat} {t : TypeId} {fr : Nat × Nat} (xs : List S37) (h : W.heap[g]? = some (.cells (flat37 xs).toArray t fr)) (hm : xs.length ≤ 9223372036854775807) : k37.C W (some ⟨g, 0, none⟩) xs.length xs :=
 C_lit h xs ⟨by rw [List.toList_toArray]; exact flat37_len xs, fun j p hj => by
  rw [List.toList_toArray]
  show k37.K W p (((flat37 xs).drop (j * 4)).take 4)
  rw [flat37_at xs j p hj]
  exact k37_mk W p⟩ hm
/-- What a call leaves as it was, but for the blocks of S. -/
structure Frm (S : Nat → Prop) (w W : World) : Prop where
 os : W.os = w.os
 tape : W.tape = w.tape
 output : W.output = w.output
 size : w.heap.size ≤ W.heap.size
 block : ∀ k, k < w.heap.size → ¬ S k → W.heap[k]? = w.heap[k]?
theorem Frm.refl (S : Nat → Prop) (w : World) : Frm S w w := ⟨rfl, rfl, rfl, Nat.le_refl _, fun _ _ _ => rfl⟩
theorem Frm.trans {S : Nat → Prop} {w1 w2 w3 : World} (h : Frm S w1 w2) (h2 : Frm S w2 w3) : Frm S w1 w3 := ⟨h2.os.trans h.os, h2.tape.trans h.tape, h2.output.trans h.output, Nat.le_trans h.size h2.size, fun k hk hs => (h2.block k (Nat.lt_of_lt_of_le hk h.size) hs).trans (h.block k hk hs)⟩
theorem Frm.mono {S S' : Nat → Prop} {w W : World} (h : Frm S w W) (hS : ∀ k, S k → S' k) : Frm S' w W := ⟨h.os, h.tape, h.output, h.size, fun k hk hs => h.block k hk (fun h => hs (hS k h))⟩
theorem Frm.of_below {S : Nat → Prop} {w W : World} (h : Below w.heap.size w W) : Frm S w W := ⟨h.os, h.tape, h.output, h.size, fun k hk _ => h.block k hk⟩
theorem Frm.below {S : Nat → Prop} {w0 w W : World} (h : Frm S w W) (h0 : Below w0.heap.size w0 w) (hS : ∀ k, S k → w0.heap.size ≤ k) : Below w0.heap.size w0 W := ⟨h.os.trans h0.os, h.tape.trans h0.tape, h.output.trans h0.output, Nat.le_trans h0.size h.size, fun k hk => (h.block k (Nat.lt_of_lt_of_le hk h0.size) (fun hs => absurd (hS k hs) (Nat.not_le.2 hk))).trans (h0.block k hk)⟩
theorem Frm.set {S : Nat → Prop} {w W : World} (h : Frm S w W) {g : Nat} (hg : S g) (o : Nat) (u : Value) : Frm S w (W.setCell ⟨g, o, none⟩ u) := ⟨h.os, h.tape, h.output, by simpa [World.setCell] using h.size, fun k hk hs => (Below.heap_setCell W ⟨g, o, none⟩ u k (fun he => by subst he; exact hs hg)).trans (h.block k hk hs)⟩
theorem Frm.sets {S : Nat → Prop} {w W : World} (h : Frm S w W) {g : Nat} (hg : S g) (o : Nat) (us : List Value) : Frm S w (W.setCells g o us) := by
 obtain ⟨h1, h2, h3, h4⟩ := setCells_same g us o W
 exact ⟨h1.trans h.os, h2.trans h.tape, h3.trans h.output, by rw [h4]; exact h.size, fun k hk hs => (setCells_far us o k (fun he => by subst he; exact hs hg)).trans (h.block k hk hs)⟩
theorem Frm.at_ {S : Nat → Prop} {w W : World} (h : Frm S w W) {k : Nat} {o : Obj} (hk : w.heap[k]? = some o) (hs : ¬ S k) : W.heap[k]? = some o := by
 obtain ⟨hlt, _⟩ := Array.getElem?_eq_some_iff.1 hk
 exact (h.block k hlt hs).trans hk
theorem ints_set {W : World} {g : Nat} {xs : List Int} (h : W.heap[g]? = some (.cells (xs.map (Value.int .i64)).toArray 3 (0, 0))) (i : Nat) (x : Int) : (W.setCell ⟨g, i, none⟩ (.int .i64 x)).heap[g]? = some (.cells ((xs.set i x).map (Value.int .i64)).toArray 3 (0, 0)) :=
 blk_put h i _ (by rw [List.setIfInBounds_toArray, List.map_set])
theorem flat_set {W : World} {g : Nat} {xs : List S37} (h : W.heap[g]? = some (.cells (flat37 xs).toArray 37 (0, 0))) (i : Nat) (x : S37) (hi : i < xs.length) : (W.setCells g (i * 4) (cells37 x)).heap[g]? = some (.cells (flat37 (xs.set i x)).toArray 37 (0, 0)) := by
 have hl := flat37_len xs
 obtain ⟨cur, h1, h2, h3⟩ := setCells_row (cells37 x) (i * 4) W _ h (by simp [cells37, hl]; omega)
 rw [h1]
 congr 2
 apply Array.toList_inj.1
 rw [h3, List.toList_toArray, List.toList_toArray, ← flat37_set xs i x hi]
 rfl
def upTo {β : Type} (f : Nat → β → β) : Nat → β → β
 | 0, b => b
 | k + 1, b => f k (upTo f k b)
def toV (l : List S34) (plan : List S37) (free : List Int) (i g : Nat) : Int := wrap64 (stV l plan free i g + (rd_T34 l i).f1)
def place (l : List S34) (plan : List S37) (free : List Int) (i g : Nat) : S37 := ⟨wrap64 ((g : Int) + 1), (rd_T34 l i).f0, stV l plan free i g, toV l plan free i g⟩
def gOf (l : List S34) (win : List Bool) (F : Int → List S37 → List Int → List S37 × Int → List S37 × Int) (en : Int) (plan : List S37) (free : List Int) (i g : Nat) (b : List S37 × Int) : List S37 × Int :=
 if (rd_T34 l i).f2 = true ∧ rdOf false win g = false then b else F (mx en (toV l plan free i g)) (plan.set i (place l plan free i g)) (free.set g (toV l plan free i g)) b
def iOf (l : List S34) (win : List Bool) (F : Int → List S37 → List Int → List S37 × Int → List S37 × Int) (en : Int) (plan : List S37) (free : List Int) (i : Nat) (b : List S37 × Int) : List S37 × Int :=
 if (rd_T37 plan i).f0 ≠ 0 then b else upTo (gOf l win F en plan free i) win.length b
def srch (l : List S34) (win : List Bool) : Nat → Int → List S37 → List Int → List S37 × Int → List S37 × Int
 | 0, en, plan, free, b => if b.1.isEmpty = false ∧ b.2 ≤ en then b else (plan, en)
 | n + 1, en, plan, free, b => if b.1.isEmpty = false ∧ b.2 ≤ en then b else upTo (iOf l win (srch l win n) en plan free) l.length b
/-- The planner's own cells. -/
def plC (l : List S34) (Al : Option Addr) (cl : Nat) (win : List Bool) (Aw : Option Addr) (cw gf gp cf cp : Nat) (vb : Value) (e : Int) : Obj :=
 .cells #[.slice Al l.length cl, .slice Aw win.length cw, .slice (some ⟨gf, 0, none⟩) win.length cf, .slice (some ⟨gp, 0, none⟩) l.length cp, vb, .int .i64 e] 50 (0, 0)
/-- The best plan so far, and the planner's cells, in the world W (B: the number of blocks ahead). -/
def BV (B P gf gp : Nat) (W : World) (vb : Value) (best : List S37) : Prop := (best = [] → vb = .slice none 0 0) ∧ Kd.N k37 37 W B (fun k => k ≠ P ∧ k ≠ gf ∧ k ≠ gp) vb best
theorem N37_tight {e base : Nat} {w : World} {ok : Nat → Prop} {v : Value} {xs : List S37} (h : Kd.N k37 e w base ok v xs) : Kd.N k37 e w base (fun k => some k = v.ownBlock) v xs := by
 obtain ⟨h0, rows, hl, hR, hf⟩ := h
 refine ⟨fun k hk => hk.symm, rows, hl, hR, fun j x c hx hc W _ => ?_⟩
 have := k37_open (Kd.FK_now (hf j x c hx hc))
 rw [this]
 exact k37_mk W x
theorem N37_mono {e base : Nat} {w : World} {ok ok' : Nat → Prop} {v : Value} {xs : List S37} (h : Kd.N k37 e w base ok v xs) (hv : ∀ k, v.ownBlock = some k → ok' k) : Kd.N k37 e w base ok' v xs := Kd.N_mono (N37_tight h) (fun k hk => hv k hk.symm)
theorem flat_cell {W : World} {g : Nat} {xs : List S37} (h : W.heap[g]? = some (.cells (flat37 xs).toArray 37 (0, 0))) (i : Nat) (hi : i < xs.length) : W.cell? ⟨g, i * 4, none⟩ = some (.int .i64 (rd_T37 xs i).f0) ∧ W.cell? ⟨g, i * 4 + 1, none⟩ = some (.int .i64 (rd_T37 xs i).f1) ∧ W.cell? ⟨g, i * 4 + 2, none⟩ = some (.int .i64 (rd_T37 xs i).f2) ∧ W.cell? ⟨g, i * 4 + 3, none⟩ = some (.int .i64 (rd_T37 xs i).f3) := by
 have hx : xs[i]? = some (rd_T37 xs i) := by simp [rd_T37, List.getElem?_eq_getElem hi]
 have ha := flat37_at xs i _ hx
 have hc : ∀ j : Nat, j < 4 → W.cell? ⟨g, i * 4 + j, none⟩ = (cells37 (rd_T37 xs i))[j]? := fun j hj => by
  rw [← ha, List.getElem?_take, if_pos hj, List.getElem?_drop, cell_of_row W g _ _ 37 (0, 0) h, List.getElem?_toArray]
 exact ⟨hc 0 (by omega), hc 1 (by omega), hc 2 (by omega), hc 3 (by omega)⟩
theorem ints_cell {W : World} {g : Nat} {xs : List Int} (h : W.heap[g]? = some (.cells (xs.map (Value.int .i64)).toArray 3 (0, 0))) (i : Nat) (hi : i < xs.length) : W.cell? ⟨g, i, none⟩ = some (.int .i64 (rd xs i)) := by
 rw [cell_of_row W g _ _ 3 (0, 0) h, List.getElem?_toArray, List.getElem?_map, List.getElem?_eq_getElem hi]
 simp [rd, List.getElem?_eq_getElem hi]
theorem BV_step {B P gf gp : Nat} {w W : World} {vb : Value} {best : List S37} (h : BV B P gf gp w vb best) (hm : ∀ k, k ≠ P ∧ k ≠ gf ∧ k ≠ gp → k < w.heap.size → W.heap[k]? = w.heap[k]?) : BV B P gf gp W vb best := ⟨h.1, Kd.N_step h.2 hm⟩
theorem BV_below {B P gf gp : Nat} {w W : World} {vb : Value} {best : List S37} (h : BV B P gf gp w vb best) (hb : Below w.heap.size w W) : BV B P gf gp W vb best := BV_step h (fun k _ hk => hb.block k hk)
theorem frm_back {P gf gp : Nat} {w W : World} (h : Frm (fun k => k = P ∨ k = gf ∨ k = gp) w W) (h1 : W.heap[gf]? = w.heap[gf]?) (h2 : W.heap[gp]? = w.heap[gp]?) : Frm (fun k => k = P) w W := ⟨h.os, h.tape, h.output, h.size, fun k hk hs => by
 by_cases e1 : k = gf
 ·subst e1; exact h1
 ·by_cases e2 : k = gp
  ·subst e2; exact h2
  ·exact h.block k hk (fun h => h.elim hs (fun h => h.elim e1 e2))⟩
theorem rd_set_at {xs : List S37} {i : Nat} (x : S37) (hi : i < xs.length) : rd_T37 (xs.set i x) i = x := by simp [rd_T37, List.getElem?_set, hi]
theorem rd_set_ne {xs : List S37} {i j : Nat} (x : S37) (h : j ≠ i) : rd_T37 (xs.set i x) j = rd_T37 xs j := by simp [rd_T37, List.getElem?_set, Ne.symm h]
theorem set_back {xs : List S37} {i : Nat} (x : S37) (hi : i < xs.length) : (xs.set i x).set i (rd_T37 xs i) = xs := by
 rw [List.set_set]
 apply List.ext_getElem? 
 intro j
 rw [List.getElem?_set]
 split
 ·rename_i h; subst h; simp [rd_T37, List.getElem?_eq_getElem hi]
 ·rfl
theorem seti_back {xs : List Int} {i : Nat} (x : Int) (hi : i < xs.length) : (xs.set i x).set i (rd xs i) = xs := by
 rw [List.set_set]
 apply List.ext_getElem? 
 intro j
 rw [List.getElem?_set]
 split
 ·rename_i h; subst h; simp [rd, List.getElem?_eq_getElem hi]
 ·rfl
theorem place_z {l : List S34} {plan : List S37} {free : List Int} {i g : Nat} (hi : i < plan.length) (hg : g < 100) (hpz : ∀ j : Nat, j < l.length → (rd_T37 plan j).f0 = 0 → rd_T37 plan j = z37) : ∀ j : Nat, j < l.length → (rd_T37 (plan.set i (place l plan free i g)) j).f0 = 0 → rd_T37 (plan.set i (place l plan free i g)) j = z37 := by
 intro j hj h
 by_cases he : j = i
 ·subst he
  rw [rd_set_at _ hi] at h
  have : wrap64 ((g : Int) + 1) = 0 := h
  rw [wrap_id (by omega)] at this
  omega
 ·rw [rd_set_ne _ he] at h ⊢
  exact hpz j hj h
set_option maxHeartbeats 4000000 in
set_option maxRecDepth 100000 in
theorem search_cut (w0 : World) (l : List S34) (win : List Bool) (Al Aw : Option Addr) (cl cw P gf gp cf cp : Nat) (hl : Kd.C k34 w0 Al l.length l) (hw : Kd.C Kd.bool w0 Aw win.length win) (hlc : l.length ≤ 100) (hwc : win.length ≤ 100) (h0 : 0 < l.length) (hP : w0.heap.size ≤ P) (hgf : w0.heap.size ≤ gf) (hgp : w0.heap.size ≤ gp) (nPf : P ≠ gf) (nPp : P ≠ gp) (nfp : gf ≠ gp) (hkp : l.length ≤ cp) (hkf : win.length ≤ cf) (hlcl : l.length ≤ cl) (hwcw : win.length ≤ cw) (n : Nat) (en : Int) (plan : List S37) (free : List Int) (vb : Value) (e : Int) (best : List S37) (w : World) (hpl : plan.length = l.length) (hfl : free.length = win.length) (hpz : ∀ i : Nat, i < l.length → (rd_T37 plan i).f0 = 0 → rd_T37 plan i = z37) (hB0 : Below w0.heap.size w0 w) (hcP : w.heap[P]? = some (plC l Al cl win Aw cw gf gp cf cp vb e)) (hcf : w.heap[gf]? = some (.cells (free.map (Value.int .i64)).toArray 3 (0, 0))) (hcp : w.heap[gp]? = some (.cells (flat37 plan).toArray 37 (0, 0))) (hbv : BV w0.heap.size P gf gp w vb best) (hb : best.isEmpty = false) (he : e ≤ en) :
  Calls Try.prog 25 #[.pointer (some ⟨P, 0, none⟩), .int .i64 (n : Nat), .int .i64 en] w fun e_ w' => e_ = .returned (.tuple #[]) ∧ Frm (fun k => k = P) w w' ∧ ∃ vb' : Value, w'.heap[P]? = some (plC l Al cl win Aw cw gf gp cf cp vb' (srch l win (n) en plan free (best, e)).2) ∧ BV w0.heap.size P gf gp w' vb' (srch l win (n) en plan free (best, e)).1 := by
 have hS : srch l win n en plan free (best, e) = (best, e) := by cases n <;> rw [srch, if_pos ⟨hb, he⟩]
 rw [hS]
 have hpos : 0 < best.length := by cases best with | nil => cases hb | cons _ _ => simp
 obtain ⟨gb, cb, rfl, _⟩ := Kd.N_form hbv.2 hpos
 clear hb hpos hS
 have HL := Aside0.mk hl
 have HW := Aside0.mk hw
 have HPL := Aside0.mk hpl
 have HFL := Aside0.mk hfl
 have HPZ := Aside0.mk hpz
 have HB0 := Aside0.mk hB0
 have HCP := Aside0.mk hcP
 have HCF := Aside0.mk hcf
 have HCPL := Aside0.mk hcp
 have HBV := Aside0.mk hbv
 have hu34 := Try.underlying34
 have hu37 := Try.underlying37
 have hu50 := Try.underlying50
 have zP := blk_lt hcP
 unfold plC at hcP
 have p0 := blk_cell hcP 0
 have p1 := blk_cell hcP 1
 have p2 := blk_cell hcP 2
 have p3 := blk_cell hcP 3
 have p4 := blk_cell hcP 4
 have p5 := blk_cell hcP 5
 simp only [List.getElem?_toArray, List.getElem?_cons_zero, List.getElem?_cons_succ] at p0 p1 p2 p3 p4 p5
 clear hl hw hpl hfl hpz hB0 hcP hcf hcp hbv
 have q1 : decide (en ≥ e) = true := decide_eq_true he
 have q2 : decide (e ≤ en) = true := decide_eq_true he
 clear he
 have hq : ∀ W : World, (binOp .neq 24 (.slice (some ⟨gb, 0, none⟩) best.length cb) (.slice none 0 0)).run Try.prog W = .ok (.bool true) W := fun W => run_neq_slice_nil_any W 24 37 (some ⟨gb, 0, none⟩) best.length cb 0 0 Try.underlying24
 go_enter Try.func25, Try.ntmps25
 go_wp2
 (try simp only [Exit.inBlock, Exit.then])
 first | (refine bodyPost_ret (results_none rfl _ _ _) rfl ?_) | (refine bodyPost_end (results_none rfl _ _ _) rfl ?_)
 exact ⟨by first | rfl | (simp; done), Frm.refl _ _, _, HCP.out, HBV.out⟩
set_option maxHeartbeats 4000000 in
set_option maxRecDepth 100000 in
theorem search_zero_nil (w0 : World) (l : List S34) (win : List Bool) (Al Aw : Option Addr) (cl cw P gf gp cf cp : Nat) (hl : Kd.C k34 w0 Al l.length l) (hw : Kd.C Kd.bool w0 Aw win.length win) (hlc : l.length ≤ 100) (hwc : win.length ≤ 100) (h0 : 0 < l.length) (hP : w0.heap.size ≤ P) (hgf : w0.heap.size ≤ gf) (hgp : w0.heap.size ≤ gp) (nPf : P ≠ gf) (nPp : P ≠ gp) (nfp : gf ≠ gp) (hkp : l.length ≤ cp) (hkf : win.length ≤ cf) (hlcl : l.length ≤ cl) (hwcw : win.length ≤ cw) (en : Int) (plan : List S37) (free : List Int) (vb : Value) (e : Int) (best : List S37) (w : World) (hpl : plan.length = l.length) (hfl : free.length = win.length) (hpz : ∀ i : Nat, i < l.length → (rd_T37 plan i).f0 = 0 → rd_T37 plan i = z37) (hB0 : Below w0.heap.size w0 w) (hcP : w.heap[P]? = some (plC l Al cl win Aw cw gf gp cf cp vb e)) (hcf : w.heap[gf]? = some (.cells (free.map (Value.int .i64)).toArray 3 (0, 0))) (hcp : w.heap[gp]? = some (.cells (flat37 plan).toArray 37 (0, 0))) (hbv : BV w0.heap.size P gf gp w vb best) (hb : best = []) :
  Calls Try.prog 25 #[.pointer (some ⟨P, 0, none⟩), .int .i64 (0 : Nat), .int .i64 en] w fun e_ w' => e_ = .returned (.tuple #[]) ∧ Frm (fun k => k = P) w w' ∧ ∃ vb' : Value, w'.heap[P]? = some (plC l Al cl win Aw cw gf gp cf cp vb' (srch l win (0) en plan free (best, e)).2) ∧ BV w0.heap.size P gf gp w' vb' (srch l win (0) en plan free (best, e)).1 := by
 have hS : srch l win 0 en plan free (best, e) = (plan, en) := by rw [srch, if_neg (by first | exact (fun h => by cases h.1) | (subst hb; exact (fun h => by cases h.1)))]
 rw [hS]
 clear hS
 have hpp := C_flat plan hcp (by omega)
 subst hb
 obtain rfl := hbv.1 rfl
 have HL := Aside0.mk hl
 have HW := Aside0.mk hw
 have HPL := Aside0.mk hpl
 have HFL := Aside0.mk hfl
 have HPZ := Aside0.mk hpz
 have HB0 := Aside0.mk hB0
 have HCP := Aside0.mk hcP
 have HCF := Aside0.mk hcf
 have HCPL := Aside0.mk hcp
 have HBV := Aside0.mk hbv
 have hu34 := Try.underlying34
 have hu37 := Try.underlying37
 have hu50 := Try.underlying50
 have zP := blk_lt hcP
 unfold plC at hcP
 have p0 := blk_cell hcP 0
 have p1 := blk_cell hcP 1
 have p2 := blk_cell hcP 2
 have p3 := blk_cell hcP 3
 have p4 := blk_cell hcP 4
 have p5 := blk_cell hcP 5
 simp only [List.getElem?_toArray, List.getElem?_cons_zero, List.getElem?_cons_succ] at p0 p1 p2 p3 p4 p5
 clear hl hw hpl hfl hpz hB0 hcP hcf hcp hbv
 have hq : ∀ W : World, (binOp .neq 24 (.slice none 0 0) (.slice none 0 0)).run Try.prog W = .ok (.bool false) W := fun W => run_neq_slice_nil_any W 24 37 none 0 0 0 0 Try.underlying24
 have HPP := Aside0.mk hpp
 clear hpp
 go_enter Try.func25, Try.ntmps25
 go_wp2_with fail
 rw [← HPL.out]
 refine (api_Shift.calls (some ⟨gp, 0, none⟩) cp plan plan _ HPP.out ?hc0 ?hf0).mono ?_
 case hc0 => have := HPL.out; omega
 case hf0 => exact if_pos (by have := HPL.out; omega)
 rintro e_ w1 ⟨v0, rfl, hN, hb⟩
 have zf := blk_lt HCF.out
 have zp := blk_lt HCPL.out
 have hne : 0 < plan.length := by have := HPL.out; omega
 obtain ⟨gn, cn, rfl, hge, hlt, _⟩ := Kd.N_form hN hne
 have HN := Aside0.mk hN
 have HB1 := Aside0.mk hb
 have C1 := Aside0.mk (blk_below HCP.out hb)
 have HNE := Aside0.mk hne
 have hc1 := C1.out
 unfold plC at hc1
 clear p0 p1 p2 p3 p4 p5 hN hb hne
 have p0 := blk_cell hc1 0
 have p1 := blk_cell hc1 1
 have p2 := blk_cell hc1 2
 have p3 := blk_cell hc1 3
 have p4 := blk_cell hc1 4
 have p5 := blk_cell hc1 5
 simp only [List.getElem?_toArray, List.getElem?_cons_zero, List.getElem?_cons_succ] at p0 p1 p2 p3 p4 p5
 have fz4 := blk_frozen hc1 4
 have fz5 := blk_frozen hc1 5
 clear hc1
 have zP1 := blk_lt C1.out
 go_wp2
 (try simp only [Exit.inBlock, Exit.then])
 first | (refine bodyPost_ret (results_none rfl _ _ _) rfl ?_) | (refine bodyPost_end (results_none rfl _ _ _) rfl ?_)
 have hN2 := N37_mono (ok' := fun k => k ≠ P ∧ k ≠ gf ∧ k ≠ gp) (Kd.N_lower HN.out (Nat.le_trans HB0.out.size (Nat.le_refl _))) (fun k hk => by have := Kd.N_base HN.out k hk; omega)
 exact ⟨by first | rfl | (simp; done), Frm.set (S := fun k => k = P) (g := P) (Frm.set (S := fun k => k = P) (g := P) (Frm.of_below HB1.out) rfl 4 _) rfl 5 _, _, blk_put (blk_put C1.out 4 _ rfl) 5 _ (by first | rfl | (simp [plC]; done)), fun h => by rw [h] at HNE; exact absurd HNE.out (by simp), Kd.N_far (Kd.N_far hN2 (fun k hk => hk.1) _) (fun k hk => hk.1) _⟩
set_option maxHeartbeats 4000000 in
set_option maxRecDepth 100000 in
theorem search_zero_lt (w0 : World) (l : List S34) (win : List Bool) (Al Aw : Option Addr) (cl cw P gf gp cf cp : Nat) (hl : Kd.C k34 w0 Al l.length l) (hw : Kd.C Kd.bool w0 Aw win.length win) (hlc : l.length ≤ 100) (hwc : win.length ≤ 100) (h0 : 0 < l.length) (hP : w0.heap.size ≤ P) (hgf : w0.heap.size ≤ gf) (hgp : w0.heap.size ≤ gp) (nPf : P ≠ gf) (nPp : P ≠ gp) (nfp : gf ≠ gp) (hkp : l.length ≤ cp) (hkf : win.length ≤ cf) (hlcl : l.length ≤ cl) (hwcw : win.length ≤ cw) (en : Int) (plan : List S37) (free : List Int) (vb : Value) (e : Int) (best : List S37) (w : World) (hpl : plan.length = l.length) (hfl : free.length = win.length) (hpz : ∀ i : Nat, i < l.length → (rd_T37 plan i).f0 = 0 → rd_T37 plan i = z37) (hB0 : Below w0.heap.size w0 w) (hcP : w.heap[P]? = some (plC l Al cl win Aw cw gf gp cf cp vb e)) (hcf : w.heap[gf]? = some (.cells (free.map (Value.int .i64)).toArray 3 (0, 0))) (hcp : w.heap[gp]? = some (.cells (flat37 plan).toArray 37 (0, 0))) (hbv : BV w0.heap.size P gf gp w vb best) (hb : best.isEmpty = false) (he : ¬ e ≤ en) :
  Calls Try.prog 25 #[.pointer (some ⟨P, 0, none⟩), .int .i64 (0 : Nat), .int .i64 en] w fun e_ w' => e_ = .returned (.tuple #[]) ∧ Frm (fun k => k = P) w w' ∧ ∃ vb' : Value, w'.heap[P]? = some (plC l Al cl win Aw cw gf gp cf cp vb' (srch l win (0) en plan free (best, e)).2) ∧ BV w0.heap.size P gf gp w' vb' (srch l win (0) en plan free (best, e)).1 := by
 have hS : srch l win 0 en plan free (best, e) = (plan, en) := by rw [srch, if_neg (by first | exact (fun h => he h.2) | (subst hb; exact (fun h => he h.2)))]
 rw [hS]
 clear hS
 have hpp := C_flat plan hcp (by omega)
 have hpos : 0 < best.length := by cases best with | nil => cases hb | cons _ _ => simp
 obtain ⟨gb, cb, rfl, _⟩ := Kd.N_form hbv.2 hpos
 clear hb hpos
 have HL := Aside0.mk hl
 have HW := Aside0.mk hw
 have HPL := Aside0.mk hpl
 have HFL := Aside0.mk hfl
 have HPZ := Aside0.mk hpz
 have HB0 := Aside0.mk hB0
 have HCP := Aside0.mk hcP
 have HCF := Aside0.mk hcf
 have HCPL := Aside0.mk hcp
 have HBV := Aside0.mk hbv
 have hu34 := Try.underlying34
 have hu37 := Try.underlying37
 have hu50 := Try.underlying50
 have zP := blk_lt hcP
 unfold plC at hcP
 have p0 := blk_cell hcP 0
 have p1 := blk_cell hcP 1
 have p2 := blk_cell hcP 2
 have p3 := blk_cell hcP 3
 have p4 := blk_cell hcP 4
 have p5 := blk_cell hcP 5
 simp only [List.getElem?_toArray, List.getElem?_cons_zero, List.getElem?_cons_succ] at p0 p1 p2 p3 p4 p5
 clear hl hw hpl hfl hpz hB0 hcP hcf hcp hbv
 have q1 : decide (en ≥ e) = false := decide_eq_false he
 have q2 : decide (e ≤ en) = false := decide_eq_false he
 clear he
 have hq : ∀ W : World, (binOp .neq 24 (.slice (some ⟨gb, 0, none⟩) best.length cb) (.slice none 0 0)).run Try.prog W = .ok (.bool true) W := fun W => run_neq_slice_nil_any W 24 37 (some ⟨gb, 0, none⟩) best.length cb 0 0 Try.underlying24
 have HPP := Aside0.mk hpp
 clear hpp
 go_enter Try.func25, Try.ntmps25
 go_wp2_with fail
 rw [← HPL.out]
 refine (api_Shift.calls (some ⟨gp, 0, none⟩) cp plan plan _ HPP.out ?hc0 ?hf0).mono ?_
 case hc0 => have := HPL.out; omega
 case hf0 => exact if_pos (by have := HPL.out; omega)
 rintro e_ w1 ⟨v0, rfl, hN, hb⟩
 have zf := blk_lt HCF.out
 have zp := blk_lt HCPL.out
 have hne : 0 < plan.length := by have := HPL.out; omega
 obtain ⟨gn, cn, rfl, hge, hlt, _⟩ := Kd.N_form hN hne
 have HN := Aside0.mk hN
 have HB1 := Aside0.mk hb
 have C1 := Aside0.mk (blk_below HCP.out hb)
 have HNE := Aside0.mk hne
 have hc1 := C1.out
 unfold plC at hc1
 clear p0 p1 p2 p3 p4 p5 hN hb hne
 have p0 := blk_cell hc1 0
 have p1 := blk_cell hc1 1
 have p2 := blk_cell hc1 2
 have p3 := blk_cell hc1 3
 have p4 := blk_cell hc1 4
 have p5 := blk_cell hc1 5
 simp only [List.getElem?_toArray, List.getElem?_cons_zero, List.getElem?_cons_succ] at p0 p1 p2 p3 p4 p5
 have fz4 := blk_frozen hc1 4
 have fz5 := blk_frozen hc1 5
 clear hc1
 have zP1 := blk_lt C1.out
 go_wp2
 (try simp only [Exit.inBlock, Exit.then])
 first | (refine bodyPost_ret (results_none rfl _ _ _) rfl ?_) | (refine bodyPost_end (results_none rfl _ _ _) rfl ?_)
 have hN2 := N37_mono (ok' := fun k => k ≠ P ∧ k ≠ gf ∧ k ≠ gp) (Kd.N_lower HN.out (Nat.le_trans HB0.out.size (Nat.le_refl _))) (fun k hk => by have := Kd.N_base HN.out k hk; omega)
 exact ⟨by first | rfl | (simp; done), Frm.set (S := fun k => k = P) (g := P) (Frm.set (S := fun k => k = P) (g := P) (Frm.of_below HB1.out) rfl 4 _) rfl 5 _, _, blk_put (blk_put C1.out 4 _ rfl) 5 _ (by first | rfl | (simp [plC]; done)), fun h => by rw [h] at HNE; exact absurd HNE.out (by simp), Kd.N_far (Kd.N_far hN2 (fun k hk => hk.1) _) (fun k hk => hk.1) _⟩
theorem run_store_oper {P : Program} {ρ : Operand → Value} {oi : Oper} {t : TypeId} {a x : Operand} {w w1 : World} (ho : oi.op = .store t a x) (h : (Instr.storeAt t (ρ a) (ρ x)).run P w = .ok () w1) : (execOp ρ oi).run P w = .ok .skip w1 := by
 unfold execOp
 rw [ho]
 simp [h]
theorem ints_sets {W : World} {g : Nat} {xs : List Int} (h : W.heap[g]? = some (.cells (xs.map (Value.int .i64)).toArray 3 (0, 0))) (i : Nat) (x : Int) : (W.setCells g i [.int .i64 x]).heap[g]? = some (.cells ((xs.set i x).map (Value.int .i64)).toArray 3 (0, 0)) := ints_set h i x
def X25.T11 : Bool × List (List Nat × List Nat) := (true, [([], []), ([0], [0]), ([1], [1]), ([2], [2]), ([], []), ([3, 4], [3, 4]), ([5], [5]), ([], []), ([], []), ([], []), ([7, 8, 9], [7, 8, 9]), ([6, 10, 0, 1, 2, 3, 4, 5, 6], [6]), ([10, 11, 0, 1, 2, 3, 4, 5, 6, 7, 8, 9, 10, 11], [10])])
def X25.B11 : List Nat := [0, 1, 3, 7, 0, 31, 63, 0, 0, 0, 896, 2047, 4095]
theorem X25.tab11 : rtab .any (opsOf Try.f25 11) = X25.T11 := by kernel_rfl
theorem X25.bits11 : waitsOk X25.T11.2 X25.B11 = true := by kernel_rfl
def X25.T13 : Bool × List (List Nat × List Nat) := (true, [([], []), ([0], [0]), ([1], [1]), ([2], [2]), ([], []), ([], []), ([5], [5]), ([6], [6]), ([7], [7]), ([], []), ([], []), ([10], [10]), ([], []), ([12], [12]), ([], []), ([], []), ([11, 13, 14, 15], [11, 13, 14, 15]), ([], []), ([3, 4, 0, 1, 2, 3, 4, 8, 10, 11, 12, 13, 14, 15, 16], [3, 4]), ([18, 16, 0, 1, 2, 3, 4, 8, 10, 11, 12, 13, 14, 15, 16], [16, 18]), ([8, 9, 0, 1, 2, 3, 4, 5, 6, 7, 8, 9, 10, 11, 12, 13, 14, 15, 16, 17, 18, 19], [8, 9]), ([20, 17, 19, 0, 1, 2, 3, 4, 5, 6, 7, 8, 9, 10, 11, 12, 13, 14, 15, 16, 17, 18, 19], [17, 20])])
def X25.B13 : List Nat := [0, 1, 3, 7, 0, 0, 32, 96, 224, 0, 0, 1024, 0, 4096, 0, 0, 64512, 0, 130559, 392703, 1048575, 2097151]
theorem X25.tab13 : rtab .any (opsOf Try.f25 13) = X25.T13 := by kernel_rfl
theorem X25.bits13 : waitsOk X25.T13.2 X25.B13 = true := by kernel_rfl
def X25.T15 : Bool × List (List Nat × List Nat) := (true, [([], []), ([0], [0]), ([1], [1]), ([2], [2]), ([], []), ([], []), ([5], [5]), ([6], [6]), ([7], [7]), ([], []), ([], []), ([], []), ([3, 4, 0, 1, 2, 3, 4, 8, 10], [3, 4]), ([12, 10, 0, 1, 2, 3, 4, 8, 10], [10, 12]), ([8, 9, 0, 1, 2, 3, 4, 5, 6, 7, 8, 9, 10, 11, 12, 13], [8, 9]), ([14, 11, 13, 0, 1, 2, 3, 4, 5, 6, 7, 8, 9, 10, 11, 12, 13], [11, 14])])
def X25.B15 : List Nat := [0, 1, 3, 7, 0, 0, 32, 96, 224, 0, 0, 0, 1535, 5631, 16383, 32767]
theorem X25.tab15 : rtab .any (opsOf Try.f25 15) = X25.T15 := by kernel_rfl
theorem X25.bits15 : waitsOk X25.T15.2 X25.B15 = true := by kernel_rfl
set_option maxHeartbeats 16000000 in
set_option maxRecDepth 100000 in
theorem search_succ (w0 : World) (l : List S34) (win : List Bool) (Al Aw : Option Addr) (cl cw P gf gp cf cp : Nat) (hl : Kd.C k34 w0 Al l.length l) (hw : Kd.C Kd.bool w0 Aw win.length win) (hlc : l.length ≤ 100) (hwc : win.length ≤ 100) (h0 : 0 < l.length) (hP : w0.heap.size ≤ P) (hgf : w0.heap.size ≤ gf) (hgp : w0.heap.size ≤ gp) (nPf : P ≠ gf) (nPp : P ≠ gp) (nfp : gf ≠ gp) (hkp : l.length ≤ cp) (hkf : win.length ≤ cf) (hlcl : l.length ≤ cl) (hwcw : win.length ≤ cw) (n : Nat) (hn : n ≤ 100) (nn : Int) (hnn : nn = (n : Int) + 1) (IH : ∀ (en : Int) (plan : List S37) (free : List Int) (vb : Value) (e : Int) (best : List S37) (w : World) (hpl : plan.length = l.length) (hfl : free.length = win.length) (hpz : ∀ i : Nat, i < l.length → (rd_T37 plan i).f0 = 0 → rd_T37 plan i = z37) (hB0 : Below w0.heap.size w0 w) (hcP : w.heap[P]? = some (plC l Al cl win Aw cw gf gp cf cp vb e)) (hcf : w.heap[gf]? = some (.cells (free.map (Value.int .i64)).toArray 3 (0, 0))) (hcp : w.heap[gp]? = some (.cells (flat37 plan).toArray 37 (0, 0))) (hbv : BV w0.heap.size P gf gp w vb best), Calls Try.prog 25 #[.pointer (some ⟨P, 0, none⟩), .int .i64 (n : Nat), .int .i64 en] w fun e_ w' => e_ = .returned (.tuple #[]) ∧ Frm (fun k => k = P) w w' ∧ ∃ vb' : Value, w'.heap[P]? = some (plC l Al cl win Aw cw gf gp cf cp vb' (srch l win (n) en plan free (best, e)).2) ∧ BV w0.heap.size P gf gp w' vb' (srch l win (n) en plan free (best, e)).1) (en : Int) (plan : List S37) (free : List Int) (vb : Value) (e : Int) (best : List S37) (w : World) (hpl : plan.length = l.length) (hfl : free.length = win.length) (hpz : ∀ i : Nat, i < l.length → (rd_T37 plan i).f0 = 0 → rd_T37 plan i = z37) (hB0 : Below w0.heap.size w0 w) (hcP : w.heap[P]? = some (plC l Al cl win Aw cw gf gp cf cp vb e)) (hcf : w.heap[gf]? = some (.cells (free.map (Value.int .i64)).toArray 3 (0, 0))) (hcp : w.heap[gp]? = some (.cells (flat37 plan).toArray 37 (0, 0))) (hbv : BV w0.heap.size P gf gp w vb best) (hcut : best = [] ∨ best.isEmpty = false ∧ ¬ e ≤ en) :
  Calls Try.prog 25 #[.pointer (some ⟨P, 0, none⟩), .int .i64 nn, .int .i64 en] w fun e_ w' => e_ = .returned (.tuple #[]) ∧ Frm (fun k => k = P) w w' ∧ ∃ vb' : Value, w'.heap[P]? = some (plC l Al cl win Aw cw gf gp cf cp vb' (srch l win (n + 1) en plan free (best, e)).2) ∧ BV w0.heap.size P gf gp w' vb' (srch l win (n + 1) en plan free (best, e)).1 := by
 have hS : srch l win (n + 1) en plan free (best, e) = upTo (iOf l win (srch l win n) en plan free) l.length (best, e) := by rw [srch, if_neg (fun h => hcut.elim (fun h2 => by rw [h2] at h; cases h.1) (fun h2 => h2.2 h.2))]
 rw [hS]
 clear hS
 have HIH := Aside0.mk IH
 clear IH
 rcases hcut with hb | ⟨hb, he⟩
 obtain rfl := hbv.1 hb
 clear hb
 have hq : ∀ W : World, (binOp .neq 24 (.slice none 0 0) (.slice none 0 0)).run Try.prog W = .ok (.bool false) W := fun W => run_neq_slice_nil_any W 24 37 none 0 0 0 0 Try.underlying24
 rotate_left
 have hpos : 0 < best.length := by cases best with | nil => cases hb | cons _ _ => simp
 obtain ⟨gb, cb, rfl, _⟩ := Kd.N_form hbv.2 hpos
 clear hb hpos
 have q1 : decide (en ≥ e) = false := decide_eq_false he
 have q2 : decide (e ≤ en) = false := decide_eq_false he
 clear he
 have hq : ∀ W : World, (binOp .neq 24 (.slice (some ⟨gb, 0, none⟩) best.length cb) (.slice none 0 0)).run Try.prog W = .ok (.bool true) W := fun W => run_neq_slice_nil_any W 24 37 (some ⟨gb, 0, none⟩) best.length cb 0 0 Try.underlying24
 rotate_left
 all_goals (
  have HL := Aside0.mk hl
  have HW := Aside0.mk hw
  have HPL := Aside0.mk hpl
  have HFL := Aside0.mk hfl
  have HPZ := Aside0.mk hpz
  have HB0 := Aside0.mk hB0
  have HCP := Aside0.mk hcP
  have HCF := Aside0.mk hcf
  have HCPL := Aside0.mk hcp
  have HBV := Aside0.mk hbv
  have hu34 := Try.underlying34
  have hu37 := Try.underlying37
  have hu50 := Try.underlying50
  have zP := blk_lt hcP
  unfold plC at hcP
  have p0 := blk_cell hcP 0
  have p1 := blk_cell hcP 1
  have p2 := blk_cell hcP 2
  have p3 := blk_cell hcP 3
  have p4 := blk_cell hcP 4
  have p5 := blk_cell hcP 5
  simp only [List.getElem?_toArray, List.getElem?_cons_zero, List.getElem?_cons_succ] at p0 p1 p2 p3 p4 p5
  clear hl hw hpl hfl hpz hB0 hcP hcf hcp hbv
  have qn : (nn == 0) = false := beq_eq_false_iff_ne.mpr (by omega)
  have qm : wrap64 (nn - 1) = (n : Int) := by rw [wrap_id (by omega)]; omega
  clear hnn
  have zf := blk_lt HCF.out
  have zp := blk_lt HCPL.out
  go_enter Try.func25, Try.ntmps25
  go_wp2_with fail
  clear p0 p1 p2 p3 p4 p5
  go_loopw [44] (fun v44 wr => ∃ i : Nat, i ≤ l.length ∧ v44 = .int .i64 i ∧ ∃ vb' : Value, Frm (fun k => k = P) w wr ∧ wr.heap[P]? = some (plC l Al cl win Aw cw gf gp cf cp vb' (upTo (iOf l win (srch l win n) en plan free) i (best, e)).2) ∧ BV w0.heap.size P gf gp wr vb' (upTo (iOf l win (srch l win n) en plan free) i (best, e)).1) (fun v44 _ => l.length - (intOf v44).toNat)
  case atStart => exact ⟨0, Nat.zero_le _, rfl, _, Frm.refl _ _, HCP.out, HBV.out⟩
  case round =>
   have NX : ∀ k, k < w.heap.size → k ≠ wr.heap.size := fun k hk => by have := (show w.heap.size ≤ wr.heap.size from by obtain ⟨_, _, _, _, h, _⟩ := hrel; exact h.size); omega
   obtain ⟨i, hi, rfl, vi, hfr, hcp, hbv⟩ := hrel
   generalize hbi : upTo (iOf l win (srch l win n) en plan free) i (best, e) = bi at hcp hbv
   have HBI := Aside0.mk hbi
   clear hbi
   have FR := Aside0.mk hfr
   have CP := Aside0.mk hcp
   have BW := Aside0.mk hbv
   clear hfr hcp hbv
   have GF := Aside0.mk (FR.out.at_ HCF.out (fun h => nPf (show gf = P from h).symm))
   have GP := Aside0.mk (FR.out.at_ HCPL.out (fun h => nPp (show gp = P from h).symm))
   have HBr := Aside0.mk (FR.out.below HB0.out (fun k hk => (show k = P from hk) ▸ hP))
   by_cases hlt : i < l.length
   ·have hc_ := CP.out
    unfold plC at hc_
    have p0 := blk_cell hc_ 0
    have p1 := blk_cell hc_ 1
    have p2 := blk_cell hc_ 2
    have p3 := blk_cell hc_ 3
    have p4 := blk_cell hc_ 4
    have p5 := blk_cell hc_ 5
    simp only [List.getElem?_toArray, List.getElem?_cons_zero, List.getElem?_cons_succ] at p0 p1 p2 p3 p4 p5
    clear hc_
    have zp := blk_lt CP.out
    obtain ⟨ai, A3, c3, eA, x0, x1, x2, x3, hci, hii⟩ := at_T34 HL.out (i : Int) (by omega) (by omega)
    subst eA
    rw [Int.toNat_natCast] at x0 x1 x2 x3
    replace x0 := (HBr.out.cell (World.block_lt_of_cell? w0 _ x0)).trans x0
    replace x1 := (HBr.out.cell (World.block_lt_of_cell? w0 _ x1)).trans x1
    replace x2 := (HBr.out.cell (World.block_lt_of_cell? w0 _ x2)).trans x2
    replace x3 := (HBr.out.cell (World.block_lt_of_cell? w0 _ x3)).trans x3
    clear hci hii
    have gpc := (flat_cell GP.out i (by have := HPL.out; omega)).1
    have zgp := blk_lt GP.out
    have hb := below_alloc (Below.refl wr.heap.size wr) (.cells #[.int .i64 (rd_T34 l i).f0, .int .i64 (rd_T34 l i).f1, .bool (rd_T34 l i).f2, .slice A3 (rd_T34 l i).f3.length c3] 34 (0, 0))
    have FR1 := Aside0.mk (FR.out.trans (Frm.of_below hb))
    have CP1 := Aside0.mk (blk_below CP.out hb)
    have BW1 := Aside0.mk (BV_below BW.out hb)
    have BX1 := Aside0.mk (heap_alloc_new wr (.cells #[.int .i64 (rd_T34 l i).f0, .int .i64 (rd_T34 l i).f1, .bool (rd_T34 l i).f2, .slice A3 (rd_T34 l i).f3.length c3] 34 (0, 0)))
    clear hb
    by_cases hz : (rd_T37 plan i).f0 ≠ 0
    ·have q3 : ((rd_T37 plan i).f0 != 0) = true := bne_iff_ne.mpr hz
     have q4 : ((rd_T37 plan i).f0 == 0) = false := beq_eq_false_iff_ne.mpr hz
     have HE := Aside0.mk (show upTo (iOf l win (srch l win n) en plan free) (i + 1) (best, e) = bi from by rw [upTo, HBI.out, iOf, if_pos hz])
     clear hz
     go_wp2
     exact ⟨⟨i + 1, hlt, rfl, vi, FR1.out, by rw [HE.out]; exact CP1.out, by rw [HE.out]; exact BW1.out⟩, by simp [intOf]; omega⟩
    ·replace hz : (rd_T37 plan i).f0 = 0 := Classical.not_not.1 hz
     have q3 : ((rd_T37 plan i).f0 != 0) = false := by simpa using hz
     have q4 : ((rd_T37 plan i).f0 == 0) = true := by simpa using hz
     have HZ := Aside0.mk (HPZ.out i hlt hz)
     have HE1 := Aside0.mk (show upTo (iOf l win (srch l win n) en plan free) (i + 1) (best, e) = upTo (gOf l win (srch l win n) en plan free i) win.length bi from by rw [upTo, HBI.out, iOf, if_neg (fun h => h hz)])
     clear hz
     go_wp2_with fail
     clear x0 x1 x2 x3 gpc zgp FR CP BW GF GP HBr
     clear p0 p1 p2 p3 p4 p5 zp
     have nx : P ≠ wr.heap.size ∧ gf ≠ wr.heap.size ∧ gp ≠ wr.heap.size := ⟨NX P zP, NX gf zf, NX gp zp⟩
     generalize wr.heap.size = bx at BX1 nx ⊢
     generalize wr.alloc (.cells #[.int .i64 (rd_T34 l i).f0, .int .i64 (rd_T34 l i).f1, .bool (rd_T34 l i).f2, .slice A3 (rd_T34 l i).f3.length c3] 34 (0, 0)) = wo at FR1 CP1 BW1 BX1 ⊢
     go_loopw [63] (fun v63 wq => ∃ g : Nat, g ≤ win.length ∧ v63 = .int .i64 g ∧ ∃ vb' : Value, Frm (fun k => k = P) w wq ∧ wq.heap[P]? = some (plC l (some ai) cl win Aw cw gf gp cf cp vb' (upTo (gOf l win (srch l win n) en plan free i) g bi).2) ∧ BV w0.heap.size P gf gp wq vb' (upTo (gOf l win (srch l win n) en plan free i) g bi).1 ∧ wq.heap[bx]? = some (.cells #[.int .i64 (rd_T34 l i).f0, .int .i64 (rd_T34 l i).f1, .bool (rd_T34 l i).f2, .slice A3 (rd_T34 l i).f3.length c3] 34 (0, 0))) (fun v63 _ => win.length - (intOf v63).toNat)
     case atStart => exact ⟨0, Nat.zero_le _, rfl, vi, FR1.out, CP1.out, BW1.out, BX1.out⟩
     case round =>
      clear FR1 CP1 BW1 BX1
      obtain ⟨g, hg, rfl, vg, hfr, hcp, hbv, hbx⟩ := hrel
      generalize hbg : upTo (gOf l win (srch l win n) en plan free i) g bi = bg at hcp hbv
      have HBG := Aside0.mk hbg
      have BX := Aside0.mk hbx
      clear hbg hbx
      have FR := Aside0.mk hfr
      have CP := Aside0.mk hcp
      have BW := Aside0.mk hbv
      clear hfr hcp hbv
      have GF := Aside0.mk (FR.out.at_ HCF.out (fun h => nPf (show gf = P from h).symm))
      have GP := Aside0.mk (FR.out.at_ HCPL.out (fun h => nPp (show gp = P from h).symm))
      have HBr := Aside0.mk (FR.out.below HB0.out (fun k hk => (show k = P from hk) ▸ hP))
      by_cases hgt : g < win.length
      ·have hc_ := CP.out
       unfold plC at hc_
       have p0 := blk_cell hc_ 0
       have p1 := blk_cell hc_ 1
       have p2 := blk_cell hc_ 2
       have p3 := blk_cell hc_ 3
       have p4 := blk_cell hc_ 4
       have p5 := blk_cell hc_ 5
       simp only [List.getElem?_toArray, List.getElem?_cons_zero, List.getElem?_cons_succ] at p0 p1 p2 p3 p4 p5
       clear hc_
       have zp := blk_lt CP.out
       have s0 := blk_cell BX.out 0
       have s1 := blk_cell BX.out 1
       have s2 := blk_cell BX.out 2
       have s3 := blk_cell BX.out 3
       simp only [List.getElem?_toArray, List.getElem?_cons_zero, List.getElem?_cons_succ] at s0 s1 s2 s3
       have zbx := blk_lt BX.out
       obtain ⟨aw, eW, xw⟩ := Kd.at_bool HW.out (g : Int) (by omega) (by omega)
       subst eW
       rw [Int.toNat_natCast] at xw
       replace xw := (HBr.out.cell (World.block_lt_of_cell? w0 _ xw)).trans xw
       by_cases hsk : (rd_T34 l i).f2 = true ∧ rdOf false win g = false
       ·obtain ⟨hwx, hwg⟩ := hsk
        have HE := Aside0.mk (show upTo (gOf l win (srch l win n) en plan free i) (g + 1) bi = bg from by rw [upTo, HBG.out, gOf, if_pos ⟨hwx, hwg⟩])
        go_wp2
        exact ⟨⟨g + 1, hgt, rfl, vg, FR.out, by rw [HE.out]; exact CP.out, by rw [HE.out]; exact BW.out, by first | exact BX.out | (have hx := BX.out; rw [hwx] at hx; exact hx)⟩, by simp [intOf]; omega⟩
       ·have HE := Aside0.mk (show upTo (gOf l win (srch l win n) en plan free i) (g + 1) bi = srch l win n (mx en (toV l plan free i g)) (plan.set i (place l plan free i g)) (free.set g (toV l plan free i g)) bg from by rw [upTo, HBG.out, gOf, if_neg hsk])
        have hwy : (rd_T34 l i).f2 = false ∨ ((rd_T34 l i).f2 = true ∧ rdOf false win g = true) := by cases h1 : (rd_T34 l i).f2 <;> cases h2 : rdOf false win g <;> simp_all
        clear hsk
        rcases hwy with hwx | ⟨hwx, hwg⟩
        all_goals (
         rw [hwx]
         go_wp2_with fail
         clear p0 p1 p2 p3 p4 p5 zp
         clear s0 s1 s2 s3 zbx xw
         have hb := below_drew (Below.refl wr.heap.size wr)
         have nFR_ := Aside0.mk (FR.out.trans (Frm.of_below hb))
         have nCP_ := Aside0.mk (blk_below CP.out hb)
         have nBW_ := Aside0.mk (BV_below BW.out hb)
         have nGF_ := Aside0.mk (blk_below GF.out hb)
         have nGP_ := Aside0.mk (blk_below GP.out hb)
         have nBX_ := Aside0.mk (blk_below BX.out hb)
         have nHBr_ := Aside0.mk (below_step HBr.out hb)
         clear hb FR CP BW GF GP BX HBr
         have FR := nFR_
         have CP := nCP_
         have BW := nBW_
         have GF := nGF_
         have GP := nGP_
         have BX := nBX_
         have HBr := nHBr_
         clear nFR_ nCP_ nBW_ nGF_ nGP_ nBX_ nHBr_
         refine start_ (n := 13) (S := fun w' => w'.cell? ⟨P, 2, none⟩ = some (.slice (some ⟨gf, 0, none⟩) win.length cf) ∧ w'.cell? ⟨gf, g, none⟩ = some (.int .i64 (rd free g))) (ds := []) #[false, false, false, false, false, false, false, false, false, false, false, false, false] (by kernel_rfl) rfl rfl ⟨((blk_cell CP.out 2).trans rfl), (ints_cell GF.out g (by have := HFL.out; omega))⟩ (fun hHeld => ?_)
         refine with_tabW X25.tab11 X25.bits11 (fun HT_ HW_ => ?_)
         generalize wr.drew = wd at FR CP BW GF GP BX HBr hHeld ⊢
         refine pure_ (i := 0) (N := some 78) (v := ?_) (a' := ?_) #[true, false, false, false, false, false, false, false, false, false, false, false, false] rfl rfl (any_of HT_.out (by kernel_rfl)) (fun _ _ _ h => h) (Or.inl ⟨by rfl, ?_⟩) ?_ ?_
         rotate_left
         ·intro w'
          go_simp
          with_reducible rfl
         rotate_left
         ·simp only [Act.put, List.setIfInBounds_toArray, List.set_cons_zero, List.set_cons_succ, i64_w, i32_w]
          rfl
         refine pure_ (i := 1) (N := some 79) (v := ?_) (a' := ?_) #[true, true, false, false, false, false, false, false, false, false, false, false, false] rfl rfl (any_of HT_.out (by kernel_rfl)) (fun _ _ _ h => h) (Or.inl ⟨by rfl, ?_⟩) ?_ ?_
         rotate_left
         ·intro w'
          go_simp
          with_reducible rfl
         rotate_left
         ·simp only [Act.put, List.setIfInBounds_toArray, List.set_cons_zero, List.set_cons_succ, i64_w, i32_w]
          rfl
         refine pure_ (i := 2) (N := some 80) (v := ?_) (a' := ?_) #[true, true, true, false, false, false, false, false, false, false, false, false, false] rfl rfl (any_of HT_.out (by kernel_rfl)) (fun _ _ _ h => h) (Or.inl ⟨by rfl, ?_⟩) ?_ ?_
         rotate_left
         ·intro w'
          go_simp
          with_reducible rfl
         rotate_left
         ·simp only [Act.put, List.setIfInBounds_toArray, List.set_cons_zero, List.set_cons_succ, i64_w, i32_w]
          rfl
         refine pure_ (i := 4) (N := some 82) (v := ?_) (a' := ?_) #[true, true, true, false, true, false, false, false, false, false, false, false, false] rfl rfl (any_of HT_.out (by kernel_rfl)) (fun _ _ _ h => h) (Or.inl ⟨by rfl, ?_⟩) ?_ ?_
         rotate_left
         ·intro w'
          go_simp
          with_reducible rfl
         rotate_left
         ·simp only [Act.put, List.setIfInBounds_toArray, List.set_cons_zero, List.set_cons_succ, i64_w, i32_w]
          rfl
         refine pure_ (i := 7) (N := some 85) (v := ?_) (a' := ?_) #[true, true, true, false, true, false, false, true, false, false, false, false, false] rfl rfl (any_of HT_.out (by kernel_rfl)) (fun _ _ _ h => h) (Or.inl ⟨by rfl, ?_⟩) ?_ ?_
         rotate_left
         ·intro w'
          go_simp
          with_reducible rfl
         rotate_left
         ·simp only [Act.put, List.setIfInBounds_toArray, List.set_cons_zero, List.set_cons_succ, i64_w, i32_w]
          rfl
         refine pure_ (i := 8) (N := some 86) (v := ?_) (a' := ?_) #[true, true, true, false, true, false, false, true, true, false, false, false, false] rfl rfl (any_of HT_.out (by kernel_rfl)) (fun _ _ _ h => h) (Or.inl ⟨by rfl, ?_⟩) ?_ ?_
         rotate_left
         ·intro w'
          go_simp
          with_reducible rfl
         rotate_left
         ·simp only [Act.put, List.setIfInBounds_toArray, List.set_cons_zero, List.set_cons_succ, i64_w, i32_w]
          rfl
         refine pure_ (i := 9) (N := some 87) (v := ?_) (a' := ?_) #[true, true, true, false, true, false, false, true, true, true, false, false, false] rfl rfl (any_of HT_.out (by kernel_rfl)) (fun _ _ _ h => h) (Or.inl ⟨by rfl, ?_⟩) ?_ ?_
         rotate_left
         ·intro w'
          go_simp
          with_reducible rfl
         rotate_left
         ·simp only [Act.put, List.setIfInBounds_toArray, List.set_cons_zero, List.set_cons_succ, i64_w, i32_w]
          rfl
         refine take_ (i := 3) (N := some 81) (v := ?_) (a' := ?_) #[true, true, true, true, true, false, false, true, true, true, false, false, false] rfl rfl (take_ofW HT_.out HW_.out (by kernel_rfl)) (fun _ _ _ h => h) (Or.inl ⟨by rfl, ?_⟩) hHeld ?_ ?_
         rotate_left
         ·rintro w' ⟨s0, s1⟩
          go_simp
          with_reducible rfl
         rotate_left
         ·simp only [Act.put, List.setIfInBounds_toArray, List.set_cons_zero, List.set_cons_succ, i64_w, i32_w]
          rfl
         refine pure_ (i := 5) (N := some 83) (v := ?_) (a' := ?_) #[true, true, true, true, true, true, false, true, true, true, false, false, false] rfl rfl (any_of HT_.out (by kernel_rfl)) (fun _ _ _ h => h) (Or.inl ⟨by rfl, ?_⟩) ?_ ?_
         rotate_left
         ·intro w'
          go_simp
          with_reducible rfl
         rotate_left
         ·simp only [Act.put, List.setIfInBounds_toArray, List.set_cons_zero, List.set_cons_succ, i64_w, i32_w]
          rfl
         refine take_ (i := 6) (N := some 84) (v := ?_) (a' := ?_) #[true, true, true, true, true, true, true, true, true, true, false, false, false] rfl rfl (take_ofW HT_.out HW_.out (by kernel_rfl)) (fun _ _ _ h => h) (Or.inl ⟨by rfl, ?_⟩) hHeld ?_ ?_
         rotate_left
         ·rintro w' ⟨s0, s1⟩
          go_simp
          with_reducible rfl
         rotate_left
         ·simp only [Act.put, List.setIfInBounds_toArray, List.set_cons_zero, List.set_cons_succ, i64_w, i32_w]
          rfl
         refine one_ (i := 10) (N := some 88) #[true, true, true, true, true, true, true, true, true, true, true, false, false] rfl rfl (one_of HT_.out (by kernel_rfl)) (by decide) (fun K hK => ?_)
         refine goes_ Try.func40 (by kernel_rfl) rfl #[.pointer (some ⟨P, 0, none⟩), .int .i64 i, .int .i64 g] (by rfl) rfl rfl (by simp only [List.map_toArray, List.map_cons, List.map_nil]; rfl) ?_
         with_reducible refine (start_calls l (some ai) ⟨gf, 0, none⟩ ⟨gp, 0, none⟩ cl P cf cp (.slice (some aw) win.length cw) free plan vg bg.2 i g _ (by have h_ := CP.out; unfold plC at h_; rw [HFL.out, HPL.out]; exact h_) (Kd.C_below HL.out HBr.out) (C_ints free GF.out (by have := HFL.out; omega)) (C_flat plan GP.out (by have := HPL.out; omega)) hlt (by have := HFL.out; omega) HPL.out).mono ?_
         rintro e_ wz ⟨rfl, hb⟩
         refine ⟨_, rfl, ?_⟩
         have nFR_ := Aside0.mk (FR.out.trans (Frm.of_below hb))
         have nCP_ := Aside0.mk (blk_below CP.out hb)
         have nBW_ := Aside0.mk (BV_below BW.out hb)
         have nGF_ := Aside0.mk (blk_below GF.out hb)
         have nGP_ := Aside0.mk (blk_below GP.out hb)
         have nBX_ := Aside0.mk (blk_below BX.out hb)
         have nHBr_ := Aside0.mk (below_step HBr.out hb)
         clear hb FR CP BW GF GP BX HBr
         have FR := nFR_
         have CP := nCP_
         have BW := nBW_
         have GF := nGF_
         have GP := nGP_
         have BX := nBX_
         have HBr := nHBr_
         clear nFR_ nCP_ nBW_ nGF_ nGP_ nBX_ nHBr_
         refine hK.out _ _ ⟨((blk_cell CP.out 2).trans rfl), (ints_cell GF.out g (by have := HFL.out; omega))⟩ (fun hHeld => ?_)
         clear hK K
         refine norm_ (a' := ?_) ?_ ?_
         rotate_left
         ·show Act.put _ (some 88) _ = _
          simp only [Act.put, List.setIfInBounds_toArray, List.set_cons_zero, List.set_cons_succ, i64_w, i32_w]
          rfl
         refine pure_ (i := 11) (N := some 9) (v := ?_) (a' := ?_) #[true, true, true, true, true, true, true, true, true, true, true, true, false] rfl rfl (any_of HT_.out (by kernel_rfl)) (fun _ _ _ h => h) (Or.inl ⟨by rfl, ?_⟩) ?_ ?_
         rotate_left
         ·intro w'
          go_simp
          with_reducible rfl
         rotate_left
         ·simp only [Act.put, List.setIfInBounds_toArray, List.set_cons_zero, List.set_cons_succ, i64_w, i32_w]
          rfl
         refine pure_ (i := 12) (N := some 10) (v := ?_) (a' := ?_) #[true, true, true, true, true, true, true, true, true, true, true, true, true] rfl rfl (any_of HT_.out (by kernel_rfl)) (fun _ _ _ h => h) (Or.inl ⟨by rfl, ?_⟩) ?_ ?_
         rotate_left
         ·intro w'
          go_simp
          with_reducible rfl
         rotate_left
         ·simp only [Act.put, List.setIfInBounds_toArray, List.set_cons_zero, List.set_cons_succ, i64_w, i32_w]
          rfl
         refine done_ (done_of HT_.out (by kernel_rfl)) ?_
         have s0 := blk_cell BX.out 0
         have s1 := blk_cell BX.out 1
         have s2 := blk_cell BX.out 2
         have s3 := blk_cell BX.out 3
         simp only [List.getElem?_toArray, List.getElem?_cons_zero, List.getElem?_cons_succ] at s0 s1 s2 s3
         have zbx := blk_lt BX.out
         go_wp2_with fail
         clear s0 s1 s2 s3 zbx
         have hb := below_drew (Below.refl wz.heap.size wz)
         have nFR_ := Aside0.mk (FR.out.trans (Frm.of_below hb))
         have nCP_ := Aside0.mk (blk_below CP.out hb)
         have nBW_ := Aside0.mk (BV_below BW.out hb)
         have nGF_ := Aside0.mk (blk_below GF.out hb)
         have nGP_ := Aside0.mk (blk_below GP.out hb)
         have nBX_ := Aside0.mk (blk_below BX.out hb)
         have nHBr_ := Aside0.mk (below_step HBr.out hb)
         clear hb FR CP BW GF GP BX HBr
         have FR := nFR_
         have CP := nCP_
         have BW := nBW_
         have GF := nGF_
         have GP := nGP_
         have BX := nBX_
         have HBr := nHBr_
         clear nFR_ nCP_ nBW_ nGF_ nGP_ nBX_ nHBr_
         refine start_ (n := 22) (S := fun w' => w'.cell? ⟨P, 3, none⟩ = some (.slice (some ⟨gp, 0, none⟩) l.length cp) ∧ w'.cell? ⟨P, 2, none⟩ = some (.slice (some ⟨gf, 0, none⟩) win.length cf) ∧ w'.cell? ⟨bx, 0, none⟩ = some (.int .i64 (rd_T34 l i).f0)) (ds := [21]) #[false, false, false, false, false, false, false, false, false, false, false, false, false, false, false, false, false, false, false, false, false, false] (by kernel_rfl) rfl rfl ⟨((blk_cell CP.out 3).trans rfl), ((blk_cell CP.out 2).trans rfl), ((blk_cell BX.out 0).trans rfl)⟩ (fun hHeld => ?_)
         refine with_tabW X25.tab13 X25.bits13 (fun HT_ HW_ => ?_)
         generalize wz.drew = wd2 at FR CP BW GF GP BX HBr hHeld ⊢
         refine pure_ (i := 0) (N := some 93) (v := ?_) (a' := ?_) #[true, false, false, false, false, false, false, false, false, false, false, false, false, false, false, false, false, false, false, false, false, false] rfl rfl (any_of HT_.out (by kernel_rfl)) (fun _ _ _ h => h) (Or.inl ⟨by rfl, ?_⟩) ?_ ?_
         rotate_left
         ·intro w'
          go_simp
          with_reducible rfl
         rotate_left
         ·simp only [Act.put, List.setIfInBounds_toArray, List.set_cons_zero, List.set_cons_succ, i64_w, i32_w]
          rfl
         refine pure_ (i := 1) (N := some 94) (v := ?_) (a' := ?_) #[true, true, false, false, false, false, false, false, false, false, false, false, false, false, false, false, false, false, false, false, false, false] rfl rfl (any_of HT_.out (by kernel_rfl)) (fun _ _ _ h => h) (Or.inl ⟨by rfl, ?_⟩) ?_ ?_
         rotate_left
         ·intro w'
          go_simp
          with_reducible rfl
         rotate_left
         ·simp only [Act.put, List.setIfInBounds_toArray, List.set_cons_zero, List.set_cons_succ, i64_w, i32_w]
          rfl
         refine pure_ (i := 2) (N := some 95) (v := ?_) (a' := ?_) #[true, true, true, false, false, false, false, false, false, false, false, false, false, false, false, false, false, false, false, false, false, false] rfl rfl (any_of HT_.out (by kernel_rfl)) (fun _ _ _ h => h) (Or.inl ⟨by rfl, ?_⟩) ?_ ?_
         rotate_left
         ·intro w'
          go_simp
          with_reducible rfl
         rotate_left
         ·simp only [Act.put, List.setIfInBounds_toArray, List.set_cons_zero, List.set_cons_succ, i64_w, i32_w]
          rfl
         refine pure_ (i := 4) (N := some 97) (v := ?_) (a' := ?_) #[true, true, true, false, true, false, false, false, false, false, false, false, false, false, false, false, false, false, false, false, false, false] rfl rfl (any_of HT_.out (by kernel_rfl)) (fun _ _ _ h => h) (Or.inl ⟨by rfl, ?_⟩) ?_ ?_
         rotate_left
         ·intro w'
          go_simp
          with_reducible rfl
         rotate_left
         ·simp only [Act.put, List.setIfInBounds_toArray, List.set_cons_zero, List.set_cons_succ, i64_w, i32_w]
          rfl
         refine pure_ (i := 5) (N := some 98) (v := ?_) (a' := ?_) #[true, true, true, false, true, true, false, false, false, false, false, false, false, false, false, false, false, false, false, false, false, false] rfl rfl (any_of HT_.out (by kernel_rfl)) (fun _ _ _ h => h) (Or.inl ⟨by rfl, ?_⟩) ?_ ?_
         rotate_left
         ·intro w'
          go_simp
          with_reducible rfl
         rotate_left
         ·simp only [Act.put, List.setIfInBounds_toArray, List.set_cons_zero, List.set_cons_succ, i64_w, i32_w]
          rfl
         refine pure_ (i := 6) (N := some 99) (v := ?_) (a' := ?_) #[true, true, true, false, true, true, true, false, false, false, false, false, false, false, false, false, false, false, false, false, false, false] rfl rfl (any_of HT_.out (by kernel_rfl)) (fun _ _ _ h => h) (Or.inl ⟨by rfl, ?_⟩) ?_ ?_
         rotate_left
         ·intro w'
          go_simp
          with_reducible rfl
         rotate_left
         ·simp only [Act.put, List.setIfInBounds_toArray, List.set_cons_zero, List.set_cons_succ, i64_w, i32_w]
          rfl
         refine pure_ (i := 7) (N := some 100) (v := ?_) (a' := ?_) #[true, true, true, false, true, true, true, true, false, false, false, false, false, false, false, false, false, false, false, false, false, false] rfl rfl (any_of HT_.out (by kernel_rfl)) (fun _ _ _ h => h) (Or.inl ⟨by rfl, ?_⟩) ?_ ?_
         rotate_left
         ·intro w'
          go_simp
          with_reducible rfl
         rotate_left
         ·simp only [Act.put, List.setIfInBounds_toArray, List.set_cons_zero, List.set_cons_succ, i64_w, i32_w]
          rfl
         refine pure_ (i := 9) (N := some 102) (v := ?_) (a' := ?_) #[true, true, true, false, true, true, true, true, false, true, false, false, false, false, false, false, false, false, false, false, false, false] rfl rfl (any_of HT_.out (by kernel_rfl)) (fun _ _ _ h => h) (Or.inl ⟨by rfl, ?_⟩) ?_ ?_
         rotate_left
         ·intro w'
          go_simp
          with_reducible rfl
         rotate_left
         ·simp only [Act.put, List.setIfInBounds_toArray, List.set_cons_zero, List.set_cons_succ, i64_w, i32_w]
          rfl
         refine pure_ (i := 10) (N := some 103) (v := ?_) (a' := ?_) #[true, true, true, false, true, true, true, true, false, true, true, false, false, false, false, false, false, false, false, false, false, false] rfl rfl (any_of HT_.out (by kernel_rfl)) (fun _ _ _ h => h) (Or.inl ⟨by rfl, ?_⟩) ?_ ?_
         rotate_left
         ·intro w'
          go_simp
          with_reducible rfl
         rotate_left
         ·simp only [Act.put, List.setIfInBounds_toArray, List.set_cons_zero, List.set_cons_succ, i64_w, i32_w]
          rfl
         refine pure_ (i := 11) (N := some 104) (v := ?_) (a' := ?_) #[true, true, true, false, true, true, true, true, false, true, true, true, false, false, false, false, false, false, false, false, false, false] rfl rfl (any_of HT_.out (by kernel_rfl)) (fun _ _ _ h => h) (Or.inl ⟨by rfl, ?_⟩) ?_ ?_
         rotate_left
         ·intro w'
          go_simp
          with_reducible rfl
         rotate_left
         ·simp only [Act.put, List.setIfInBounds_toArray, List.set_cons_zero, List.set_cons_succ, i64_w, i32_w]
          rfl
         refine pure_ (i := 12) (N := some 105) (v := ?_) (a' := ?_) #[true, true, true, false, true, true, true, true, false, true, true, true, true, false, false, false, false, false, false, false, false, false] rfl rfl (any_of HT_.out (by kernel_rfl)) (fun _ _ _ h => h) (Or.inl ⟨by rfl, ?_⟩) ?_ ?_
         rotate_left
         ·intro w'
          go_simp
          with_reducible rfl
         rotate_left
         ·simp only [Act.put, List.setIfInBounds_toArray, List.set_cons_zero, List.set_cons_succ, i64_w, i32_w]
          rfl
         refine pure_ (i := 14) (N := some 107) (v := ?_) (a' := ?_) #[true, true, true, false, true, true, true, true, false, true, true, true, true, false, true, false, false, false, false, false, false, false] rfl rfl (any_of HT_.out (by kernel_rfl)) (fun _ _ _ h => h) (Or.inl ⟨by rfl, ?_⟩) ?_ ?_
         rotate_left
         ·intro w'
          go_simp
          with_reducible rfl
         rotate_left
         ·simp only [Act.put, List.setIfInBounds_toArray, List.set_cons_zero, List.set_cons_succ, i64_w, i32_w]
          rfl
         refine pure_ (i := 15) (N := some 108) (v := ?_) (a' := ?_) #[true, true, true, false, true, true, true, true, false, true, true, true, true, false, true, true, false, false, false, false, false, false] rfl rfl (any_of HT_.out (by kernel_rfl)) (fun _ _ _ h => h) (Or.inl ⟨by rfl, ?_⟩) ?_ ?_
         rotate_left
         ·intro w'
          go_simp
          with_reducible rfl
         rotate_left
         ·simp only [Act.put, List.setIfInBounds_toArray, List.set_cons_zero, List.set_cons_succ, i64_w, i32_w]
          rfl
         refine pure_ (i := 17) (N := some 110) (v := ?_) (a' := ?_) #[true, true, true, false, true, true, true, true, false, true, true, true, true, false, true, true, false, true, false, false, false, false] rfl rfl (any_of HT_.out (by kernel_rfl)) (fun _ _ _ h => h) (Or.inl ⟨by rfl, ?_⟩) ?_ ?_
         rotate_left
         ·intro w'
          go_simp
          with_reducible rfl
         rotate_left
         ·simp only [Act.put, List.setIfInBounds_toArray, List.set_cons_zero, List.set_cons_succ, i64_w, i32_w]
          rfl
         refine take_ (i := 3) (N := some 96) (v := ?_) (a' := ?_) #[true, true, true, true, true, true, true, true, false, true, true, true, true, false, true, true, false, true, false, false, false, false] rfl rfl (take_ofW HT_.out HW_.out (by kernel_rfl)) (fun _ _ _ h => h) (Or.inl ⟨by rfl, ?_⟩) hHeld ?_ ?_
         rotate_left
         ·rintro w' ⟨s0, s1, s2⟩
          go_simp
          with_reducible rfl
         rotate_left
         ·simp only [Act.put, List.setIfInBounds_toArray, List.set_cons_zero, List.set_cons_succ, i64_w, i32_w]
          rfl
         refine take_ (i := 8) (N := some 101) (v := ?_) (a' := ?_) #[true, true, true, true, true, true, true, true, true, true, true, true, true, false, true, true, false, true, false, false, false, false] rfl rfl (take_ofW HT_.out HW_.out (by kernel_rfl)) (fun _ _ _ h => h) (Or.inl ⟨by rfl, ?_⟩) hHeld ?_ ?_
         rotate_left
         ·rintro w' ⟨s0, s1, s2⟩
          go_simp
          with_reducible rfl
         rotate_left
         ·simp only [Act.put, List.setIfInBounds_toArray, List.set_cons_zero, List.set_cons_succ, i64_w, i32_w]
          rfl
         refine take_ (i := 13) (N := some 106) (v := ?_) (a' := ?_) #[true, true, true, true, true, true, true, true, true, true, true, true, true, true, true, true, false, true, false, false, false, false] rfl rfl (take_ofW HT_.out HW_.out (by kernel_rfl)) (fun _ _ _ h => h) (Or.inl ⟨by rfl, ?_⟩) hHeld ?_ ?_
         rotate_left
         ·rintro w' ⟨s0, s1, s2⟩
          go_simp
          with_reducible rfl
         rotate_left
         ·simp only [Act.put, List.setIfInBounds_toArray, List.set_cons_zero, List.set_cons_succ, i64_w, i32_w]
          rfl
         refine pure_ (i := 16) (N := some 109) (v := ?_) (a' := ?_) #[true, true, true, true, true, true, true, true, true, true, true, true, true, true, true, true, true, true, false, false, false, false] rfl rfl (any_of HT_.out (by kernel_rfl)) (fun _ _ _ h => h) (Or.inl ⟨by rfl, ?_⟩) ?_ ?_
         rotate_left
         ·intro w'
          go_simp
          with_reducible rfl
         rotate_left
         ·simp only [Act.put, List.setIfInBounds_toArray, List.set_cons_zero, List.set_cons_succ, i64_w, i32_w]
          rfl
         refine pure_ (i := 18) (N := some 111) (v := ?_) (a' := ?_) #[true, true, true, true, true, true, true, true, true, true, true, true, true, true, true, true, true, true, true, false, false, false] rfl rfl (any_of HT_.out (by kernel_rfl)) (fun _ _ _ h => h) (Or.inl ⟨by rfl, ?_⟩) ?_ ?_
         rotate_left
         ·intro w'
          go_simp
          with_reducible rfl
         rotate_left
         ·simp only [Act.put, List.setIfInBounds_toArray, List.set_cons_zero, List.set_cons_succ, i64_w, i32_w]
          rfl
         refine one_ (i := 19) (N := none) #[true, true, true, true, true, true, true, true, true, true, true, true, true, true, true, true, true, true, true, true, false, false] rfl rfl (one_of HT_.out (by kernel_rfl)) (by decide) (fun K hK => ?_)
         refine skip_ (w1 := wd2.setCells gp (i * 4) (cells37 (place l plan free i g))) (by rfl) rfl (run_store_oper rfl ?_) ?_
         ·exact run_store_run (P := Try.prog) (w := wd2) (g := gp) (o := i * 4) 37 (.agg #[.int .i64 (wrap64 ((g : Int) + 1)), .int .i64 (rd_T34 l i).f0, .int .i64 (stV l plan free i g), .int .i64 (toV l plan free i g)]) (cells37 (place l plan free i g)) GP.out rfl (by kernel_rfl) (by rw [List.size_toArray, flat37_len, HPL.out]; simp [cells37]; omega) (by intro q hq; simp [cells37] at hq; rcases hq with rfl | rfl | rfl | rfl <;> rfl)
         have nFR_ := Aside0.mk (Frm.sets (S := (fun k => k = P ∨ k = gf ∨ k = gp)) (g := gp) (FR.out.mono (fun k hk => Or.inl hk)) (Or.inr (Or.inr rfl)) (i * 4) (cells37 (place l plan free i g)))
         have nCP_ := Aside0.mk ((setCells_far (w := wd2) (g := gp) (cells37 (place l plan free i g)) (i * 4) P nPp).trans CP.out)
         have nBX_ := Aside0.mk ((setCells_far (w := wd2) (g := gp) (cells37 (place l plan free i g)) (i * 4) bx (nx.2.2.symm)).trans BX.out)
         have nBW_ := Aside0.mk (BV_step BW.out (fun k hk _ => setCells_far (w := wd2) (g := gp) (cells37 (place l plan free i g)) (i * 4) k (hk.2.2)))
         have nGF_ := Aside0.mk ((setCells_far (w := wd2) (g := gp) (cells37 (place l plan free i g)) (i * 4) gf (nfp)).trans GF.out)
         have nGP_ := Aside0.mk (flat_set GP.out i (place l plan free i g) (by have := HPL.out; omega))
         have nHBr_ := Aside0.mk (nFR_.out.below HB0.out (fun k hk => by rcases hk with h | h | h <;> rw [h] <;> assumption))
         clear FR CP BW GF GP BX HBr
         have FR := nFR_
         have CP := nCP_
         have BW := nBW_
         have GF := nGF_
         have GP := nGP_
         have BX := nBX_
         have HBr := nHBr_
         clear nFR_ nCP_ nBW_ nGF_ nGP_ nBX_ nHBr_
         generalize wd2.setCells gp (i * 4) (cells37 (place l plan free i g)) = ws at FR CP BW GF GP BX HBr ⊢
         refine hK.out _ _ ⟨((blk_cell CP.out 3).trans rfl), ((blk_cell CP.out 2).trans rfl), ((blk_cell BX.out 0).trans rfl)⟩ (fun hHeld => ?_)
         clear hK K
         refine pure_ (i := 20) (N := some 112) (v := ?_) (a' := ?_) #[true, true, true, true, true, true, true, true, true, true, true, true, true, true, true, true, true, true, true, true, true, false] rfl rfl (any_of HT_.out (by kernel_rfl)) (fun _ _ _ h => h) (Or.inl ⟨by rfl, ?_⟩) ?_ ?_
         rotate_left
         ·intro w'
          go_simp
          with_reducible rfl
         rotate_left
         ·simp only [Act.put, List.setIfInBounds_toArray, List.set_cons_zero, List.set_cons_succ, i64_w, i32_w]
          rfl
         refine last_ (i := 21) (N := none) #[true, true, true, true, true, true, true, true, true, true, true, true, true, true, true, true, true, true, true, true, true, true] rfl rfl (one_of HT_.out (by kernel_rfl)) (by decide) (fun K hK => ?_)
         refine skip_ (w1 := ws.setCells gf (g) ([.int .i64 (toV l plan free i g)])) (by rfl) rfl (run_store_oper rfl ?_) ?_
         ·exact run_store_run (P := Try.prog) (w := ws) (g := gf) (o := g) 3 (.int .i64 (toV l plan free i g)) [.int .i64 (toV l plan free i g)] GF.out rfl (by kernel_rfl) (by rw [List.size_toArray, List.length_map, HFL.out]; simp; omega) (by intro q hq; simp at hq; subst hq; rfl)
         have nFR_ := Aside0.mk (Frm.sets (S := (fun k => k = P ∨ k = gf ∨ k = gp)) (g := gf) (FR.out) (Or.inr (Or.inl rfl)) (g) ([.int .i64 (toV l plan free i g)]))
         have nCP_ := Aside0.mk ((setCells_far (w := ws) (g := gf) ([.int .i64 (toV l plan free i g)]) (g) P nPf).trans CP.out)
         have nBX_ := Aside0.mk ((setCells_far (w := ws) (g := gf) ([.int .i64 (toV l plan free i g)]) (g) bx (nx.2.1.symm)).trans BX.out)
         have nBW_ := Aside0.mk (BV_step BW.out (fun k hk _ => setCells_far (w := ws) (g := gf) ([.int .i64 (toV l plan free i g)]) (g) k (hk.2.1)))
         have nGP_ := Aside0.mk ((setCells_far (w := ws) (g := gf) ([.int .i64 (toV l plan free i g)]) (g) gp (nfp.symm)).trans GP.out)
         have nGF_ := Aside0.mk (ints_sets GF.out g (toV l plan free i g))
         have nHBr_ := Aside0.mk (nFR_.out.below HB0.out (fun k hk => by rcases hk with h | h | h <;> rw [h] <;> assumption))
         clear FR CP BW GF GP BX HBr
         have FR := nFR_
         have CP := nCP_
         have BW := nBW_
         have GF := nGF_
         have GP := nGP_
         have BX := nBX_
         have HBr := nHBr_
         clear nFR_ nCP_ nBW_ nGF_ nGP_ nBX_ nHBr_
         generalize ws.setCells gf (g) ([.int .i64 (toV l plan free i g)]) = ws2 at FR CP BW GF GP BX HBr ⊢
         refine hK.out _ _ ?_
         clear hK K
         refine done_ (done_of HT_.out (by kernel_rfl)) ?_
         obtain ⟨M, hM⟩ : ∃ M : Int, M = if en < wrap64 (stV l plan free i g + (rd_T34 l i).f1) then wrap64 (stV l plan free i g + (rd_T34 l i).f1) else en := ⟨_, rfl⟩
         have HM := Aside0.mk (show M = mx en (toV l plan free i g) from hM)
         replace hM := hM.symm
         go_wp2_with fail
         clear hM
         refine (HIH.out M (plan.set i (place l plan free i g)) (free.set g (toV l plan free i g)) vg bg.2 bg.1 ws2 (by rw [List.length_set]; exact HPL.out) (by rw [List.length_set]; exact HFL.out) (place_z (by have := HPL.out; omega) (by omega) HPZ.out) HBr.out CP.out GF.out GP.out BW.out).mono ?_
         rintro e_ wt ⟨rfl, hfr, vt, hcp, hbv⟩
         have nFR_ := Aside0.mk (FR.out.trans (hfr.mono (fun k hk => Or.inl hk)))
         have nCP_ := Aside0.mk hcp
         have nBW_ := Aside0.mk hbv
         have nGF_ := Aside0.mk (hfr.at_ GF.out (fun h => nPf (show gf = P from h).symm))
         have nGP_ := Aside0.mk (hfr.at_ GP.out (fun h => nPp (show gp = P from h).symm))
         have nBX_ := Aside0.mk (hfr.at_ BX.out (fun h => nx.1 (show bx = P from h).symm))
         have nHBr_ := Aside0.mk (nFR_.out.below HB0.out (fun k hk => by rcases hk with h | h | h <;> rw [h] <;> assumption))
         clear hfr hcp hbv
         clear FR CP BW GF GP BX HBr
         have FR := nFR_
         have CP := nCP_
         have BW := nBW_
         have GF := nGF_
         have GP := nGP_
         have BX := nBX_
         have HBr := nHBr_
         clear nFR_ nCP_ nBW_ nGF_ nGP_ nBX_ nHBr_
         go_wp2_with fail
         have hb := below_drew (Below.refl wt.heap.size wt)
         have nFR_ := Aside0.mk (FR.out.trans (Frm.of_below hb))
         have nCP_ := Aside0.mk (blk_below CP.out hb)
         have nBW_ := Aside0.mk (BV_below BW.out hb)
         have nGF_ := Aside0.mk (blk_below GF.out hb)
         have nGP_ := Aside0.mk (blk_below GP.out hb)
         have nBX_ := Aside0.mk (blk_below BX.out hb)
         have nHBr_ := Aside0.mk (below_step HBr.out hb)
         clear hb FR CP BW GF GP BX HBr
         have FR := nFR_
         have CP := nCP_
         have BW := nBW_
         have GF := nGF_
         have GP := nGP_
         have BX := nBX_
         have HBr := nHBr_
         clear nFR_ nCP_ nBW_ nGF_ nGP_ nBX_ nHBr_
         refine start_ (n := 16) (S := fun w' => w'.cell? ⟨P, 3, none⟩ = some (.slice (some ⟨gp, 0, none⟩) l.length cp) ∧ w'.cell? ⟨P, 2, none⟩ = some (.slice (some ⟨gf, 0, none⟩) win.length cf)) (ds := [15]) #[false, false, false, false, false, false, false, false, false, false, false, false, false, false, false, false] (by kernel_rfl) rfl rfl ⟨((blk_cell CP.out 3).trans rfl), ((blk_cell CP.out 2).trans rfl)⟩ (fun hHeld => ?_)
         refine with_tabW X25.tab15 X25.bits15 (fun HT_ HW_ => ?_)
         generalize wt.drew = wd3 at FR CP BW GF GP BX HBr hHeld ⊢
         refine pure_ (i := 0) (N := some 120) (v := ?_) (a' := ?_) #[true, false, false, false, false, false, false, false, false, false, false, false, false, false, false, false] rfl rfl (any_of HT_.out (by kernel_rfl)) (fun _ _ _ h => h) (Or.inl ⟨by rfl, ?_⟩) ?_ ?_
         rotate_left
         ·intro w'
          go_simp
          with_reducible rfl
         rotate_left
         ·simp only [Act.put, List.setIfInBounds_toArray, List.set_cons_zero, List.set_cons_succ, i64_w, i32_w]
          rfl
         refine pure_ (i := 1) (N := some 121) (v := ?_) (a' := ?_) #[true, true, false, false, false, false, false, false, false, false, false, false, false, false, false, false] rfl rfl (any_of HT_.out (by kernel_rfl)) (fun _ _ _ h => h) (Or.inl ⟨by rfl, ?_⟩) ?_ ?_
         rotate_left
         ·intro w'
          go_simp
          with_reducible rfl
         rotate_left
         ·simp only [Act.put, List.setIfInBounds_toArray, List.set_cons_zero, List.set_cons_succ, i64_w, i32_w]
          rfl
         refine pure_ (i := 2) (N := some 122) (v := ?_) (a' := ?_) #[true, true, true, false, false, false, false, false, false, false, false, false, false, false, false, false] rfl rfl (any_of HT_.out (by kernel_rfl)) (fun _ _ _ h => h) (Or.inl ⟨by rfl, ?_⟩) ?_ ?_
         rotate_left
         ·intro w'
          go_simp
          with_reducible rfl
         rotate_left
         ·simp only [Act.put, List.setIfInBounds_toArray, List.set_cons_zero, List.set_cons_succ, i64_w, i32_w]
          rfl
         refine pure_ (i := 4) (N := some 124) (v := ?_) (a' := ?_) #[true, true, true, false, true, false, false, false, false, false, false, false, false, false, false, false] rfl rfl (any_of HT_.out (by kernel_rfl)) (fun _ _ _ h => h) (Or.inl ⟨by rfl, ?_⟩) ?_ ?_
         rotate_left
         ·intro w'
          go_simp
          with_reducible rfl
         rotate_left
         ·simp only [Act.put, List.setIfInBounds_toArray, List.set_cons_zero, List.set_cons_succ, i64_w, i32_w]
          rfl
         refine pure_ (i := 5) (N := some 125) (v := ?_) (a' := ?_) #[true, true, true, false, true, true, false, false, false, false, false, false, false, false, false, false] rfl rfl (any_of HT_.out (by kernel_rfl)) (fun _ _ _ h => h) (Or.inl ⟨by rfl, ?_⟩) ?_ ?_
         rotate_left
         ·intro w'
          go_simp
          with_reducible rfl
         rotate_left
         ·simp only [Act.put, List.setIfInBounds_toArray, List.set_cons_zero, List.set_cons_succ, i64_w, i32_w]
          rfl
         refine pure_ (i := 6) (N := some 126) (v := ?_) (a' := ?_) #[true, true, true, false, true, true, true, false, false, false, false, false, false, false, false, false] rfl rfl (any_of HT_.out (by kernel_rfl)) (fun _ _ _ h => h) (Or.inl ⟨by rfl, ?_⟩) ?_ ?_
         rotate_left
         ·intro w'
          go_simp
          with_reducible rfl
         rotate_left
         ·simp only [Act.put, List.setIfInBounds_toArray, List.set_cons_zero, List.set_cons_succ, i64_w, i32_w]
          rfl
         refine pure_ (i := 7) (N := some 127) (v := ?_) (a' := ?_) #[true, true, true, false, true, true, true, true, false, false, false, false, false, false, false, false] rfl rfl (any_of HT_.out (by kernel_rfl)) (fun _ _ _ h => h) (Or.inl ⟨by rfl, ?_⟩) ?_ ?_
         rotate_left
         ·intro w'
          go_simp
          with_reducible rfl
         rotate_left
         ·simp only [Act.put, List.setIfInBounds_toArray, List.set_cons_zero, List.set_cons_succ, i64_w, i32_w]
          rfl
         refine pure_ (i := 9) (N := some 129) (v := ?_) (a' := ?_) #[true, true, true, false, true, true, true, true, false, true, false, false, false, false, false, false] rfl rfl (any_of HT_.out (by kernel_rfl)) (fun _ _ _ h => h) (Or.inl ⟨by rfl, ?_⟩) ?_ ?_
         rotate_left
         ·intro w'
          go_simp
          with_reducible rfl
         rotate_left
         ·simp only [Act.put, List.setIfInBounds_toArray, List.set_cons_zero, List.set_cons_succ, i64_w, i32_w]
          rfl
         refine pure_ (i := 10) (N := some 130) (v := ?_) (a' := ?_) #[true, true, true, false, true, true, true, true, false, true, true, false, false, false, false, false] rfl rfl (any_of HT_.out (by kernel_rfl)) (fun _ _ _ h => h) (Or.inl ⟨by rfl, ?_⟩) ?_ ?_
         rotate_left
         ·intro w'
          go_simp
          with_reducible rfl
         rotate_left
         ·simp only [Act.put, List.setIfInBounds_toArray, List.set_cons_zero, List.set_cons_succ, i64_w, i32_w]
          rfl
         refine pure_ (i := 11) (N := some 131) (v := ?_) (a' := ?_) #[true, true, true, false, true, true, true, true, false, true, true, true, false, false, false, false] rfl rfl (any_of HT_.out (by kernel_rfl)) (fun _ _ _ h => h) (Or.inl ⟨by rfl, ?_⟩) ?_ ?_
         rotate_left
         ·intro w'
          go_simp
          with_reducible rfl
         rotate_left
         ·simp only [Act.put, List.setIfInBounds_toArray, List.set_cons_zero, List.set_cons_succ, i64_w, i32_w]
          rfl
         refine take_ (i := 3) (N := some 123) (v := ?_) (a' := ?_) #[true, true, true, true, true, true, true, true, false, true, true, true, false, false, false, false] rfl rfl (take_ofW HT_.out HW_.out (by kernel_rfl)) (fun _ _ _ h => h) (Or.inl ⟨by rfl, ?_⟩) hHeld ?_ ?_
         rotate_left
         ·rintro w' ⟨s0, s1⟩
          go_simp
          with_reducible rfl
         rotate_left
         ·simp only [Act.put, List.setIfInBounds_toArray, List.set_cons_zero, List.set_cons_succ, i64_w, i32_w]
          rfl
         refine take_ (i := 8) (N := some 128) (v := ?_) (a' := ?_) #[true, true, true, true, true, true, true, true, true, true, true, true, false, false, false, false] rfl rfl (take_ofW HT_.out HW_.out (by kernel_rfl)) (fun _ _ _ h => h) (Or.inl ⟨by rfl, ?_⟩) hHeld ?_ ?_
         rotate_left
         ·rintro w' ⟨s0, s1⟩
          go_simp
          with_reducible rfl
         rotate_left
         ·simp only [Act.put, List.setIfInBounds_toArray, List.set_cons_zero, List.set_cons_succ, i64_w, i32_w]
          rfl
         refine pure_ (i := 12) (N := some 132) (v := ?_) (a' := ?_) #[true, true, true, true, true, true, true, true, true, true, true, true, true, false, false, false] rfl rfl (any_of HT_.out (by kernel_rfl)) (fun _ _ _ h => h) (Or.inl ⟨by rfl, ?_⟩) ?_ ?_
         rotate_left
         ·intro w'
          go_simp
          with_reducible rfl
         rotate_left
         ·simp only [Act.put, List.setIfInBounds_toArray, List.set_cons_zero, List.set_cons_succ, i64_w, i32_w]
          rfl
         refine one_ (i := 13) (N := none) #[true, true, true, true, true, true, true, true, true, true, true, true, true, true, false, false] rfl rfl (one_of HT_.out (by kernel_rfl)) (by decide) (fun K hK => ?_)
         refine skip_ (w1 := wd3.setCells gp (i * 4) (cells37 z37)) (by rfl) rfl (run_store_oper rfl ?_) ?_
         ·exact run_store_run (P := Try.prog) (w := wd3) (g := gp) (o := i * 4) 37 (.agg #[.int .i64 0, .int .i64 0, .int .i64 0, .int .i64 0]) (cells37 (z37)) GP.out rfl (by kernel_rfl) (by rw [List.size_toArray, flat37_len, List.length_set, HPL.out]; simp [cells37]; omega) (by intro q hq; simp [cells37] at hq; rcases hq with rfl | rfl | rfl | rfl <;> rfl)
         have nFR_ := Aside0.mk (Frm.sets (S := (fun k => k = P ∨ k = gf ∨ k = gp)) (g := gp) (FR.out) (Or.inr (Or.inr rfl)) (i * 4) (cells37 z37))
         have nCP_ := Aside0.mk ((setCells_far (w := wd3) (g := gp) (cells37 z37) (i * 4) P nPp).trans CP.out)
         have nBX_ := Aside0.mk ((setCells_far (w := wd3) (g := gp) (cells37 z37) (i * 4) bx (nx.2.2.symm)).trans BX.out)
         have nBW_ := Aside0.mk (BV_step BW.out (fun k hk _ => setCells_far (w := wd3) (g := gp) (cells37 z37) (i * 4) k (hk.2.2)))
         have nGF_ := Aside0.mk ((setCells_far (w := wd3) (g := gp) (cells37 z37) (i * 4) gf (nfp)).trans GF.out)
         have nGP_ := Aside0.mk (flat_set GP.out i z37 (by rw [List.length_set]; have := HPL.out; omega))
         have nHBr_ := Aside0.mk (nFR_.out.below HB0.out (fun k hk => by rcases hk with h | h | h <;> rw [h] <;> assumption))
         clear FR CP BW GF GP BX HBr
         have FR := nFR_
         have CP := nCP_
         have BW := nBW_
         have GF := nGF_
         have GP := nGP_
         have BX := nBX_
         have HBr := nHBr_
         clear nFR_ nCP_ nBW_ nGF_ nGP_ nBX_ nHBr_
         generalize wd3.setCells gp (i * 4) (cells37 z37) = wu at FR CP BW GF GP BX HBr ⊢
         refine hK.out _ _ ⟨((blk_cell CP.out 3).trans rfl), ((blk_cell CP.out 2).trans rfl)⟩ (fun hHeld => ?_)
         clear hK K
         refine pure_ (i := 14) (N := some 133) (v := ?_) (a' := ?_) #[true, true, true, true, true, true, true, true, true, true, true, true, true, true, true, false] rfl rfl (any_of HT_.out (by kernel_rfl)) (fun _ _ _ h => h) (Or.inl ⟨by rfl, ?_⟩) ?_ ?_
         rotate_left
         ·intro w'
          go_simp
          with_reducible rfl
         rotate_left
         ·simp only [Act.put, List.setIfInBounds_toArray, List.set_cons_zero, List.set_cons_succ, i64_w, i32_w]
          rfl
         refine last_ (i := 15) (N := none) #[true, true, true, true, true, true, true, true, true, true, true, true, true, true, true, true] rfl rfl (one_of HT_.out (by kernel_rfl)) (by decide) (fun K hK => ?_)
         refine skip_ (w1 := wu.setCells gf (g) ([.int .i64 (rd free g)])) (by rfl) rfl (run_store_oper rfl ?_) ?_
         ·exact run_store_run (P := Try.prog) (w := wu) (g := gf) (o := g) 3 (.int .i64 (rd free g)) [.int .i64 (rd free g)] GF.out rfl (by kernel_rfl) (by rw [List.size_toArray, List.length_map, List.length_set, HFL.out]; simp; omega) (by intro q hq; simp at hq; subst hq; rfl)
         have nFR_ := Aside0.mk (Frm.sets (S := (fun k => k = P ∨ k = gf ∨ k = gp)) (g := gf) (FR.out) (Or.inr (Or.inl rfl)) (g) ([.int .i64 (rd free g)]))
         have nCP_ := Aside0.mk ((setCells_far (w := wu) (g := gf) ([.int .i64 (rd free g)]) (g) P nPf).trans CP.out)
         have nBX_ := Aside0.mk ((setCells_far (w := wu) (g := gf) ([.int .i64 (rd free g)]) (g) bx (nx.2.1.symm)).trans BX.out)
         have nBW_ := Aside0.mk (BV_step BW.out (fun k hk _ => setCells_far (w := wu) (g := gf) ([.int .i64 (rd free g)]) (g) k (hk.2.1)))
         have nGP_ := Aside0.mk ((setCells_far (w := wu) (g := gf) ([.int .i64 (rd free g)]) (g) gp (nfp.symm)).trans GP.out)
         have nGF_ := Aside0.mk (ints_sets GF.out g (rd free g))
         have nHBr_ := Aside0.mk (nFR_.out.below HB0.out (fun k hk => by rcases hk with h | h | h <;> rw [h] <;> assumption))
         clear FR CP BW GF GP BX HBr
         have FR := nFR_
         have CP := nCP_
         have BW := nBW_
         have GF := nGF_
         have GP := nGP_
         have BX := nBX_
         have HBr := nHBr_
         clear nFR_ nCP_ nBW_ nGF_ nGP_ nBX_ nHBr_
         generalize wu.setCells gf (g) ([.int .i64 (rd free g)]) = wu2 at FR CP BW GF GP BX HBr ⊢
         refine hK.out _ _ ?_
         clear hK K
         refine done_ (done_of HT_.out (by kernel_rfl)) ?_
         have e1 : wu2.heap[gf]? = w.heap[gf]? := by rw [GF.out, HCF.out, seti_back _ (by have := HFL.out; omega)]
         have e2 : wu2.heap[gp]? = w.heap[gp]? := by rw [GP.out, HCPL.out, ← HZ.out, set_back _ (by have := HPL.out; omega)]
         have FRE := Aside0.mk (frm_back FR.out e1 e2)
         clear e1 e2
         try go_wp2
         exact ⟨⟨g + 1, hgt, rfl, vt, FRE.out, by rw [HE.out, ← HM.out]; exact CP.out, by rw [HE.out, ← HM.out]; exact BW.out, by first | exact BX.out | (have hx := BX.out; rw [hwx] at hx; exact hx)⟩, by simp [intOf]; omega⟩
        )
      ·obtain rfl : g = win.length := by omega
       go_wp2
       exact ⟨⟨i + 1, hlt, rfl, vg, FR.out, by rw [HE1.out, HBG.out]; exact CP.out, by rw [HE1.out, HBG.out]; exact BW.out⟩, by simp [intOf]; omega⟩
   ·obtain rfl : i = l.length := by omega
    go_wp2
    (try simp only [Exit.inBlock, Exit.then])
    first | (refine bodyPost_ret (results_none rfl _ _ _) rfl ?_) | (refine bodyPost_end (results_none rfl _ _ _) rfl ?_)
    exact ⟨by first | rfl | (simp; done), FR.out, vi, by rw [HBI.out]; exact CP.out, by rw [HBI.out]; exact BW.out⟩
 )
set_option maxHeartbeats 4000000 in
theorem search_calls (w0 : World) (l : List S34) (win : List Bool) (Al Aw : Option Addr) (cl cw P gf gp cf cp : Nat) (hl : Kd.C k34 w0 Al l.length l) (hw : Kd.C Kd.bool w0 Aw win.length win) (hlc : l.length ≤ 100) (hwc : win.length ≤ 100) (h0 : 0 < l.length) (hP : w0.heap.size ≤ P) (hgf : w0.heap.size ≤ gf) (hgp : w0.heap.size ≤ gp) (nPf : P ≠ gf) (nPp : P ≠ gp) (nfp : gf ≠ gp) (hkp : l.length ≤ cp) (hkf : win.length ≤ cf) (hlcl : l.length ≤ cl) (hwcw : win.length ≤ cw) :
  ∀ (n : Nat), n ≤ 100 → ∀ (en : Int) (plan : List S37) (free : List Int) (vb : Value) (e : Int) (best : List S37) (w : World) (hpl : plan.length = l.length) (hfl : free.length = win.length) (hpz : ∀ i : Nat, i < l.length → (rd_T37 plan i).f0 = 0 → rd_T37 plan i = z37) (hB0 : Below w0.heap.size w0 w) (hcP : w.heap[P]? = some (plC l Al cl win Aw cw gf gp cf cp vb e)) (hcf : w.heap[gf]? = some (.cells (free.map (Value.int .i64)).toArray 3 (0, 0))) (hcp : w.heap[gp]? = some (.cells (flat37 plan).toArray 37 (0, 0))) (hbv : BV w0.heap.size P gf gp w vb best), Calls Try.prog 25 #[.pointer (some ⟨P, 0, none⟩), .int .i64 (n : Nat), .int .i64 en] w fun e_ w' => e_ = .returned (.tuple #[]) ∧ Frm (fun k => k = P) w w' ∧ ∃ vb' : Value, w'.heap[P]? = some (plC l Al cl win Aw cw gf gp cf cp vb' (srch l win (n) en plan free (best, e)).2) ∧ BV w0.heap.size P gf gp w' vb' (srch l win (n) en plan free (best, e)).1 := by
 intro n
 induction n with
 | zero =>
  intro _ en plan free vb e best w hpl hfl hpz hB0 hcP hcf hcp hbv
  cases hb : best.isEmpty with
  | true => exact search_zero_nil w0 l win Al Aw cl cw P gf gp cf cp hl hw hlc hwc h0 hP hgf hgp nPf nPp nfp hkp hkf hlcl hwcw en plan free vb e best w hpl hfl hpz hB0 hcP hcf hcp hbv (List.isEmpty_iff.1 hb)
  | false =>
   by_cases he : e ≤ en
   ·exact search_cut w0 l win Al Aw cl cw P gf gp cf cp hl hw hlc hwc h0 hP hgf hgp nPf nPp nfp hkp hkf hlcl hwcw 0 en plan free vb e best w hpl hfl hpz hB0 hcP hcf hcp hbv hb he
   ·exact search_zero_lt w0 l win Al Aw cl cw P gf gp cf cp hl hw hlc hwc h0 hP hgf hgp nPf nPp nfp hkp hkf hlcl hwcw en plan free vb e best w hpl hfl hpz hB0 hcP hcf hcp hbv hb he
 | succ n ih =>
  intro hn en plan free vb e best w hpl hfl hpz hB0 hcP hcf hcp hbv
  cases hb : best.isEmpty with
  | true => exact search_succ w0 l win Al Aw cl cw P gf gp cf cp hl hw hlc hwc h0 hP hgf hgp nPf nPp nfp hkp hkf hlcl hwcw n (by omega) ((n + 1 : Nat) : Int) (by omega) (ih (by omega)) en plan free vb e best w hpl hfl hpz hB0 hcP hcf hcp hbv (.inl (List.isEmpty_iff.1 hb))
  | false =>
   by_cases he : e ≤ en
   ·exact search_cut w0 l win Al Aw cl cw P gf gp cf cp hl hw hlc hwc h0 hP hgf hgp nPf nPp nfp hkp hkf hlcl hwcw (n + 1) en plan free vb e best w hpl hfl hpz hB0 hcP hcf hcp hbv hb he
   ·exact search_succ w0 l win Al Aw cl cw P gf gp cf cp hl hw hlc hwc h0 hP hgf hgp nPf nPp nfp hkp hkf hlcl hwcw n (by omega) ((n + 1 : Nat) : Int) (by omega) (ih (by omega)) en plan free vb e best w hpl hfl hpz hB0 hcP hcf hcp hbv (.inr ⟨hb, he⟩)

end Go.Proofs.Yticfgecicmgpeaa.A
