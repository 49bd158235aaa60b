-- PRINTED by print.py (a twelfth state) out of the translation. Not trusted: Lean checks it.
import Derived.Test.YtdklkjgcnibbgaaAx0
import Derived.Test.YtdklkjgcnibbgaaAx1
namespace Go.Proofs.Ytdklkjgcnibbgaa.A
open Go.RowKit Go.Proofs.YtdklkjgcnibbgaaW.PrintWords Go.Proofs.YtdklkjgcnibbgaaW.PrintLast Go.Proofs.YtdklkjgcnibbgaaW.PrintMore
attribute [local go_sem] max2_int min2_int max_two min_two max_three min_three max_four min_four   -- for this text's walks alone
set_option linter.unusedVariables false
set_option linter.unusedSimpArgs false

/-! ### group_Right: function 12 -/
def hasId (x : Int) (t : S45) : Bool := t.f0 == x
def idAt (l : List S45) (x : Int) : Nat := l.findIdx (hasId x)
theorem rd45_get {l : List S45} {j : Nat} (h : j < l.length) : rd_T45 l j = l[j] := by simp [rd_T45, List.getElem?_eq_getElem h]
theorem id_before {l : List S45} {x : Int} {j : Nat} (h : j < idAt l x) : ((rd_T45 l j).f0 == x) = false := by
  have hl : j < l.length := Nat.lt_of_lt_of_le h List.findIdx_le_length
  rw [rd45_get hl]
  exact Bool.not_eq_true _ ▸ List.not_of_lt_findIdx h
theorem id_here {l : List S45} {x : Int} (h : idAt l x < l.length) : ((rd_T45 l (idAt l x : Nat)).f0 == x) = true := by
  rw [rd45_get h]
  exact List.findIdx_getElem (w := h)
def offerV (l : List S45) (x : Int) : Int := if idAt l x < l.length then (idAt l x : Int) else -1
set_option maxHeartbeats 400000 in
theorem clo26 (f0 f1 f2 f3 : Int) (x : Int) (g : Nat) (b : Bool) (w : World) (h0 : w.cell? ⟨g, 0, none⟩ = some (.int .i64 x)) (hb : (f0 == x) = b) :
    Calls Try.prog 26 #[.agg #[.int .i64 f0, .int .i64 f1, .int .i64 f2, .int .i64 f3], .pointer (some ⟨g, 0, none⟩)] w fun e w' => e = .returned (.bool b) ∧ Below w.heap.size w w' := by
  have hu45 := Try.underlying45
  have hu43 := Try.underlying43
  have hbel : Below w.heap.size w w := Below.refl _ _
  have z0 : g < w.heap.size := World.block_lt_of_cell? w _ h0
  go_enter Try.func26, Try.ntmps26
  go_wp2
  go_ret
  exact ⟨by first | rfl | (simp; done) | (simp [hb]; done), by repeat (first | exact hbel | apply below_alloc)⟩
set_option maxHeartbeats 2000000 in
set_option maxRecDepth 100000 in
theorem idx26 (A : Option Addr) (c : Nat) (l : List S45) (x : Int) (g : Nat) (w : World) (hr : Kd.C k45 w A l.length l) (hc : l.length ≤ c) (h0 : w.cell? ⟨g, 0, none⟩ = some (.int .i64 x)) :
    Calls Try.prog 34 #[.slice A l.length c, .func (.func 26) #[] #[.pointer (some ⟨g, 0, none⟩)]] w fun e w' => e = .returned (.int .i64 (offerV l x)) ∧ Below w.heap.size w w' := by
  have hu45 := Try.underlying45
  have hl : l.length ≤ 9223372036854775807 := hr.2.1
  have HR := Aside0.mk hr
  have HC := Aside0.mk hc
  have X0 := Aside0.mk h0
  have hj : idAt l x ≤ l.length := List.findIdx_le_length
  clear hr hc h0
  go_enter Try.func34, Try.ntmps34
  go_wp2_with fail
  go_loopw [8] (fun v8 wr => ∃ k : Nat, k ≤ idAt l x ∧ v8 = .int .i64 k ∧ Aside0 (Below w.heap.size w wr)) (fun v8 _ => l.length - (intOf v8).toNat)
  case atStart => exact ⟨0, Nat.zero_le _, rfl, ⟨Below.refl _ _⟩⟩
  case round =>
    obtain ⟨k, hk, rfl, HB⟩ := hrel
    by_cases hlt : k < l.length
    · obtain ⟨ad, rfl, x0, x1, x2, x3⟩ := at_T45 HR.out (k : Int) (by omega) (by omega)
      rw [Int.toNat_natCast] at x0 x1 x2 x3
      replace x0 := (HB.out.cell (World.block_lt_of_cell? w _ x0)).trans x0
      replace x1 := (HB.out.cell (World.block_lt_of_cell? w _ x1)).trans x1
      replace x2 := (HB.out.cell (World.block_lt_of_cell? w _ x2)).trans x2
      replace x3 := (HB.out.cell (World.block_lt_of_cell? w _ x3)).trans x3
      have g0 := (HB.out.cell (World.block_lt_of_cell? w _ X0.out)).trans X0.out
      by_cases hkj : k < idAt l x
      · have C := Aside0.mk (id_before hkj)
        go_wp2_with (go_at_call 26; (with_reducible refine (clo26 _ _ _ _ x g false _ g0 C.out).mono ?_); rintro e w2 ⟨rfl, hb2⟩; have HB2 := Aside0.mk (below_step HB.out hb2); clear hb2)
        exact ⟨⟨k + 1, hkj, rfl, HB2⟩, by simp [intOf]; omega⟩
      · obtain rfl : k = idAt l x := by omega
        have C := Aside0.mk (id_here hlt)
        have V := Aside0.mk (show offerV l x = (idAt l x : Int) from if_pos hlt)
        go_wp2_with (go_at_call 26; (with_reducible refine (clo26 _ _ _ _ x g true _ g0 C.out).mono ?_); rintro e w2 ⟨rfl, hb2⟩; have HB2 := Aside0.mk (below_step HB.out hb2); clear hb2)
        go_ret
        exact ⟨by rw [V.out]; first | rfl | (simp; done), HB2.out⟩
    · obtain rfl : k = l.length := by omega
      have V := Aside0.mk (show offerV l x = -1 from if_neg (by omega))
      clear hlt hk
      go_wp2
      go_ret
      exact ⟨by rw [V.out]; first | rfl | (simp; done), HB.out⟩
def hasOffer (l : List S45) (x : Int) : Bool := decide (offerV l x ≥ 0)
theorem contains26 (A : Option Addr) (c : Nat) (l : List S45) (x : Int) (g : Nat) (w : World) (hr : Kd.C k45 w A l.length l) (hc : l.length ≤ c) (h0 : w.cell? ⟨g, 0, none⟩ = some (.int .i64 x)) :
    Calls Try.prog 25 #[.slice A l.length c, .func (.func 26) #[] #[.pointer (some ⟨g, 0, none⟩)]] w fun e w' => e = .returned (.bool (hasOffer l x)) ∧ Below w.heap.size w w' := by
  have HR := Aside0.mk hr
  have HC := Aside0.mk hc
  have X0 := Aside0.mk h0
  have V := Aside0.mk (show decide (offerV l x ≥ 0) = hasOffer l x from rfl)
  clear hr hc h0
  go_enter Try.func25, Try.ntmps25
  go_wp2_with fail
  refine (idx26 A c l x g _ HR.out HC.out X0.out).mono ?_
  rintro e w' ⟨rfl, hb⟩
  have HB := Aside0.mk hb
  clear hb
  go_wp2_with fail
  go_ret
  exact ⟨by rw [← V.out]; rfl, HB.out⟩

def offers_has.f (l0 : List S45) (a1 : Int) : Option Bool := some (hasOffer l0 a1)
theorem offers_has.calls (A0 : Option Addr) (c0 : Nat) (l0 : List S45) (a1 : Int) (g : Nat) (r : Bool) (w : World) (hr0 : Kd.C k45 w A0 l0.length l0) (hc0 : l0.length ≤ c0) (h0 : w.cell? ⟨g, 0, none⟩ = some (.int .i64 a1)) (h : offers_has.f l0 a1 = some r) :
    Calls Try.prog 25 #[.slice A0 l0.length c0, .func (.func 26) #[] #[.pointer (some ⟨g, 0, none⟩)]] w fun e w' => e = .returned (.bool r) ∧ Below w.heap.size w w' := by
  obtain rfl := Option.some.inj h
  exact contains26 A0 c0 l0 a1 g w hr0 hc0 h0
mutual
def group_Right.j0 : Nat → List Int → List Int → List (S45) → Bool → Option (Int)
 | 0, _, _, _, _ => none
 | k + 1, x0, x1, x2, x17 => if x17 = true then (some 4) else (if (x0.length : Int) = (x1.length : Int) then (group_Right.l0 k x0 x1 x2 (x0.length : Int) 0) else (some 3))
def group_Right.l0 : Nat → List Int → List Int → List (S45) → Int → Int → Option (Int)
 | 0, _, _, _, _, _ => none
 | k + 1, x0, x1, x2, x24, x25 => if x25 < x24 then (if 0 ≤ x25 then (if x25 < (x0.length : Int) then ((group_in.f (rd x0 x25) 0 120).bind fun t102 => (if t102 = true then (if x25 < (x1.length : Int) then ((group_in.f (rd x1 x25) 0 100000000).bind fun t104 => (if t104 = true then (group_Right.l0 k x0 x1 x2 x24 (wrap64 (x25 + 1))) else (some 2))) else (none)) else (some 2))) else (none)) else (none)) else (group_Right.l1 k x2 x2 (x2.length : Int) 0)
def group_Right.l1 : Nat → List (S45) → List (S45) → Int → Int → Option (Int)
 | 0, _, _, _, _ => none
 | k + 1, x2, x43, x44, x45 => if x45 < x44 then (if 0 ≤ x45 then (if x45 < (x43.length : Int) then ((group_in.f ((rd_T45 x43 x45).f0) 1 9999).bind fun t107 => (if t107 = true then ((group_in.f ((rd_T45 x43 x45).f1) 0 8).bind fun t108 => (if t108 = true then ((group_in.f ((rd_T45 x43 x45).f2) 0 8).bind fun t109 => (if t109 = true then ((group_in.f ((rd_T45 x43 x45).f3) 0 100000000).bind fun t110 => (group_Right.j3 k x2 x45 x43 x44 x45 ((rd_T45 x43 x45).f0) (!t110))) else (group_Right.j3 k x2 x45 x43 x44 x45 ((rd_T45 x43 x45).f0) true))) else (group_Right.j3 k x2 x45 x43 x44 x45 ((rd_T45 x43 x45).f0) true))) else (group_Right.j3 k x2 x45 x43 x44 x45 ((rd_T45 x43 x45).f0) true))) else (none)) else (none)) else (some 0)
def group_Right.j3 : Nat → List (S45) → Int → List (S45) → Int → Int → Int → Bool → Option (Int)
 | 0, _, _, _, _, _, _, _ => none
 | k + 1, x2, x8, x43, x44, x45, x51, x71 => if x71 = true then (some 2) else (if 0 ≤ x8 then (if x8 ≤ (x2.length : Int) then ((offers_has.f (x2.take (x8 : Int).toNat) ((rd_T45 x43 x45).f0)).bind fun t115 => (if t115 = true then (some 7) else (group_Right.l1 k x2 x43 x44 (wrap64 (x45 + 1))))) else (none)) else (none))
end
def group_Right.f (k : Nat) (l0 : List Int) (l1 : List Int) (l2 : List (S45)) : Option (Int) := if (l0.length : Int) > 8 then (group_Right.j0 k l0 l1 l2 true) else (group_Right.j0 k l0 l1 l2 (decide ((l2.length : Int) > 8)))
theorem group_Right.mono_l : ∀ k, (∀ y0 y1 y2 y3, LeO (group_Right.j0 k y0 y1 y2 y3) (group_Right.j0 (k + 1) y0 y1 y2 y3)) ∧ (∀ y0 y1 y2 y3 y4, LeO (group_Right.l0 k y0 y1 y2 y3 y4) (group_Right.l0 (k + 1) y0 y1 y2 y3 y4)) ∧ (∀ y0 y1 y2 y3, LeO (group_Right.l1 k y0 y1 y2 y3) (group_Right.l1 (k + 1) y0 y1 y2 y3)) ∧ (∀ y0 y1 y2 y3 y4 y5 y6, LeO (group_Right.j3 k y0 y1 y2 y3 y4 y5 y6) (group_Right.j3 (k + 1) y0 y1 y2 y3 y4 y5 y6))
 | 0 => ⟨fun _ _ _ _ r h => by simp [group_Right.j0] at h, fun _ _ _ _ _ r h => by simp [group_Right.l0] at h, fun _ _ _ _ r h => by simp [group_Right.l1] at h, fun _ _ _ _ _ _ _ r h => by simp [group_Right.j3] at h⟩
 | k + 1 => by
  obtain ⟨ih0, ih1, ih2, ih3⟩ := group_Right.mono_l k
  refine ⟨?_, ?_, ?_, ?_⟩
  ·intro y0 y1 y2 y3
   unfold group_Right.j0
   repeat' first
   | (with_reducible exact ih0 _ _ _ _)
   | (with_reducible exact ih1 _ _ _ _ _)
   | (with_reducible exact ih2 _ _ _ _)
   | (with_reducible exact ih3 _ _ _ _ _ _ _)
   | (with_reducible exact LeO.refl _)
   | (with_reducible exact LeO.none _)
   | (with_reducible refine LeO.ite ?_ ?_)
   | (with_reducible refine LeO.bind ?_ (fun _ => ?_))
   | exact ih0 _ _ _ _
   | exact ih1 _ _ _ _ _
   | exact ih2 _ _ _ _
   | exact ih3 _ _ _ _ _ _ _
   | exact LeO.none _
   | refine LeO.ite ?_ ?_
   | refine LeO.bind ?_ (fun _ => ?_)
  ·intro y0 y1 y2 y3 y4
   unfold group_Right.l0
   repeat' first
   | (with_reducible exact ih0 _ _ _ _)
   | (with_reducible exact ih1 _ _ _ _ _)
   | (with_reducible exact ih2 _ _ _ _)
   | (with_reducible exact ih3 _ _ _ _ _ _ _)
   | (with_reducible exact LeO.refl _)
   | (with_reducible exact LeO.none _)
   | (with_reducible refine LeO.ite ?_ ?_)
   | (with_reducible refine LeO.bind ?_ (fun _ => ?_))
   | exact ih0 _ _ _ _
   | exact ih1 _ _ _ _ _
   | exact ih2 _ _ _ _
   | exact ih3 _ _ _ _ _ _ _
   | exact LeO.none _
   | refine LeO.ite ?_ ?_
   | refine LeO.bind ?_ (fun _ => ?_)
  ·intro y0 y1 y2 y3
   unfold group_Right.l1
   repeat' first
   | (with_reducible exact ih0 _ _ _ _)
   | (with_reducible exact ih1 _ _ _ _ _)
   | (with_reducible exact ih2 _ _ _ _)
   | (with_reducible exact ih3 _ _ _ _ _ _ _)
   | (with_reducible exact LeO.refl _)
   | (with_reducible exact LeO.none _)
   | (with_reducible refine LeO.ite ?_ ?_)
   | (with_reducible refine LeO.bind ?_ (fun _ => ?_))
   | exact ih0 _ _ _ _
   | exact ih1 _ _ _ _ _
   | exact ih2 _ _ _ _
   | exact ih3 _ _ _ _ _ _ _
   | exact LeO.none _
   | refine LeO.ite ?_ ?_
   | refine LeO.bind ?_ (fun _ => ?_)
  ·intro y0 y1 y2 y3 y4 y5 y6
   unfold group_Right.j3
   repeat' first
   | (with_reducible exact ih0 _ _ _ _)
   | (with_reducible exact ih1 _ _ _ _ _)
   | (with_reducible exact ih2 _ _ _ _)
   | (with_reducible exact ih3 _ _ _ _ _ _ _)
   | (with_reducible exact LeO.refl _)
   | (with_reducible exact LeO.none _)
   | (with_reducible refine LeO.ite ?_ ?_)
   | (with_reducible refine LeO.bind ?_ (fun _ => ?_))
   | exact ih0 _ _ _ _
   | exact ih1 _ _ _ _ _
   | exact ih2 _ _ _ _
   | exact ih3 _ _ _ _ _ _ _
   | exact LeO.none _
   | refine LeO.ite ?_ ?_
   | refine LeO.bind ?_ (fun _ => ?_)
theorem group_Right.mono : ∀ a0 a1 a2 k, LeO (group_Right.f k a0 a1 a2) (group_Right.f (k + 1) a0 a1 a2) := by
 intro a0 a1 a2 k
 obtain ⟨ih0, ih1, ih2, ih3⟩ := group_Right.mono_l k
 unfold group_Right.f
 repeat' first
   | (with_reducible exact ih0 _ _ _ _)
   | (with_reducible exact ih1 _ _ _ _ _)
   | (with_reducible exact ih2 _ _ _ _)
   | (with_reducible exact ih3 _ _ _ _ _ _ _)
   | (with_reducible exact LeO.refl _)
   | (with_reducible exact LeO.none _)
   | (with_reducible refine LeO.ite ?_ ?_)
   | (with_reducible refine LeO.bind ?_ (fun _ => ?_))
   | exact ih0 _ _ _ _
   | exact ih1 _ _ _ _ _
   | exact ih2 _ _ _ _
   | exact ih3 _ _ _ _ _ _ _
   | exact LeO.none _
   | refine LeO.ite ?_ ?_
   | refine LeO.bind ?_ (fun _ => ?_)
set_option maxHeartbeats 8000000 in
set_option maxRecDepth 100000 in
theorem group_Right.calls (k : Nat) (A0 : Option Addr) (c0 : Nat) (l0 : List Int) (A1 : Option Addr) (c1 : Nat) (l1 : List Int) (A2 : Option Addr) (c2 : Nat) (l2 : List (S45)) (r : Int) (w : World) (hr0 : Kd.C (Kd.int .i64) w A0 l0.length l0) (hc0 : l0.length ≤ c0) (hr1 : Kd.C (Kd.int .i64) w A1 l1.length l1) (hc1 : l1.length ≤ c1) (hr2 : Kd.C k45 w A2 l2.length l2) (hc2 : l2.length ≤ c2) (h : group_Right.f k l0 l1 l2 = some r) :
  Calls Try.prog 12 #[.slice A0 l0.length c0, .slice A1 l1.length c1, .slice A2 l2.length c2] w fun e w' => e = .returned (.int .i64 r) ∧ Below w.heap.size w w' := by
 have hu45 := Try.underlying45
 have HR0 := Aside0.mk hr0
 have HC0 := Aside0.mk hc0
 clear hr0 hc0
 have HR1 := Aside0.mk hr1
 have HC1 := Aside0.mk hc1
 clear hr1 hc1
 have HR2 := Aside0.mk hr2
 have HC2 := Aside0.mk hc2
 clear hr2 hc2
 have HB := Aside0.mk (Below.refl w.heap.size w)
 have H : (if (l0.length : Int) > 8 then (group_Right.j0 k l0 l1 l2 true) else (group_Right.j0 k l0 l1 l2 (decide ((l2.length : Int) > 8)))) = some r := h
 clear h
 have HC4 := Aside0.mk H
 clear H
 go_enter Try.func12, Try.ntmps12
 go_upto_region 1 with (fail)
 go_cut [17] (fun v17 wc => ∃ (kq : Nat) (x17_3 : Bool), v17 = .bool x17_3 ∧ Aside0 (group_Right.j0 kq l0 l1 l2 x17_3 = some r) ∧ Aside0 (kq ≤ k) ∧ Aside0 (Below w.heap.size w wc))
 case first =>
  have H := HC4.out
  clear HC4
  by_cases c5 : (l0.length : Int) > 8
  ·rw [if_pos c5] at H
   have c5b0 : decide (8 < (l0.length : Int)) = true := decide_eq_true c5
   have c5b1 : decide (8 < l0.length) = true := decide_eq_true (by omega)
   clear c5
   (first | rw [c5b0] | (simp only [i64_w, i32_w]; rw [c5b0]) | skip)
   have H' := Aside0.mk H
   clear H
   go_wp2
   go_meet
   case rel => exact ⟨_, (true), (by first | rfl | (simp; done) | (simp [*]; done)), H', ⟨by first | omega | exact Nat.le_refl _⟩, ⟨by repeat (first | (with_reducible first | exact HB.out | apply below_alloc | apply pw_below_drewN | apply below_drew1) | exact HB.out)⟩⟩
  ·rw [if_neg c5] at H
   have c5b0 : decide (8 < (l0.length : Int)) = false := decide_eq_false c5
   have c5b1 : decide (8 < l0.length) = false := decide_eq_false (by omega)
   clear c5
   (first | rw [c5b0] | (simp only [i64_w, i32_w]; rw [c5b0]) | skip)
   have H' := Aside0.mk H
   clear H
   go_wp2
   go_meet
   case rel => exact ⟨_, (decide ((l2.length : Int) > 8)), (by first | rfl | (simp; done) | (simp [*]; done)), H', ⟨by first | omega | exact Nat.le_refl _⟩, ⟨by repeat (first | (with_reducible first | exact HB.out | apply below_alloc | apply pw_below_drewN | apply below_drew1) | exact HB.out)⟩⟩
 case rest =>
  clear HC4
  try clear c1
  try clear c2
  try clear p2
  try clear c5
  try clear c5b0
  try clear c5b1
  obtain ⟨kq, x17_3, rfl, HA, HJ3, HB⟩ := hcut
  cases kq with
  | zero => exact absurd HA.out (by simp [group_Right.j0])
  | succ kj3 =>
   have H := HA.out
   clear HA
   simp only [group_Right.j0] at H
   by_cases c6 : x17_3 = true
   ·subst c6
    have H1 : (some 4) = some r := by rw [if_pos rfl] at H; exact H
    clear H
    have H := H1
    clear H1
    obtain rfl := Option.some.inj H
    go_wp2
    go_ret
    exact ⟨by first | rfl | (simp [errW_none, errW_some] <;> rfl) | (simp [*, errW_none, errW_some] <;> rfl), by repeat (first | (with_reducible first | exact HB.out | apply below_alloc | apply pw_below_drewN | apply below_drew1) | exact HB.out)⟩
   ·replace c6 := Bool.eq_false_iff.mpr c6
    subst c6
    have H1 : (if (l0.length : Int) = (l1.length : Int) then (group_Right.l0 kj3 l0 l1 l2 (l0.length : Int) 0) else (some 3)) = some r := by rw [if_neg (show ¬ (false = true) by decide)] at H; exact H
    clear H
    have H := H1
    clear H1
    by_cases c7 : (l0.length : Int) = (l1.length : Int)
    ·rw [if_pos c7] at H
     have c7b0 : ((l0.length : Int) == (l1.length : Int)) = true := beq_iff_eq.mpr c7
     have c7b1 : ((l0.length : Int) != (l1.length : Int)) = false := bne_eq_false_iff_eq.mpr c7
     have c7b2 : (l0.length == l1.length) = true := by first | simpa using c7 | (simp at c7 ⊢; omega)
     clear c7
     have H' := Aside0.mk H
     clear H
     go_wp2
     go_loopg [25] kj3 (fun kq v25 w' => ∃ (x25_2 : Int), v25 = .int .i64 x25_2 ∧ Aside0 (group_Right.l0 kq l0 l1 l2 (l0.length : Int) x25_2 = some r) ∧ Aside0 (kq ≤ kj3) ∧ Aside0 (Below w.heap.size w w'))
     case atStart => exact ⟨(0), (by first | rfl | (simp; done) | (simp [*]; done)), H', ⟨Nat.le_refl _⟩, ⟨by repeat (first | (with_reducible first | exact HB.out | apply below_alloc | apply pw_below_drewN | apply below_drew1) | exact HB.out)⟩⟩
     case round =>
      clear H'
      try clear c1
      try clear c2
      try clear p2
      try clear c5
      try clear c5b0
      try clear c5b1
      try clear c6
      try clear c7
      try clear c7b0
      try clear c7b1
      try clear c7b2
      try clear p2
      obtain ⟨x25_2, rfl, HA, HK2, HB⟩ := hrel
      cases gk with
      | zero => exact absurd HA.out (by simp [group_Right.l0])
      | succ k2 =>
       have H := HA.out
       clear HA
       simp only [group_Right.l0] at H
       by_cases c8 : x25_2 < (l0.length : Int)
       ·rw [if_pos c8] at H
        have c8b0 : decide (x25_2 < (l0.length : Int)) = true := decide_eq_true c8
        clear c8
        by_cases c9 : 0 ≤ x25_2
        ·rw [if_pos c9] at H
         have c9b0 : decide (0 ≤ x25_2) = true := decide_eq_true c9
         clear c9
         by_cases c10 : x25_2 < (l0.length : Int)
         ·rw [if_pos c10] at H
          have c10b0 : decide (x25_2 < (l0.length : Int)) = true := decide_eq_true c10
          clear c10
          replace H := Option.bind_eq_some_iff.mp H
          obtain ⟨t102, A110, H⟩ := H
          replace H : (if t102 = true then (if x25_2 < (l1.length : Int) then ((group_in.f (rd l1 x25_2) 0 100000000).bind fun t104 => (if t104 = true then (group_Right.l0 k2 l0 l1 l2 (l0.length : Int) (wrap64 (x25_2 + 1))) else (some 2))) else (none)) else (some 2)) = some r := H
          have A11 := Aside0.mk A110
          clear A110
          by_cases c12 : t102 = true
          ·subst c12
           have H1 : (if x25_2 < (l1.length : Int) then ((group_in.f (rd l1 x25_2) 0 100000000).bind fun t104 => (if t104 = true then (group_Right.l0 k2 l0 l1 l2 (l0.length : Int) (wrap64 (x25_2 + 1))) else (some 2))) else (none)) = some r := by rw [if_pos rfl] at H; exact H
           clear H
           have H := H1
           clear H1
           by_cases c13 : x25_2 < (l1.length : Int)
           ·rw [if_pos c13] at H
            have c13b0 : decide (x25_2 < (l1.length : Int)) = true := decide_eq_true c13
            clear c13
            replace H := Option.bind_eq_some_iff.mp H
            obtain ⟨t104, A140, H⟩ := H
            replace H : (if t104 = true then (group_Right.l0 k2 l0 l1 l2 (l0.length : Int) (wrap64 (x25_2 + 1))) else (some 2)) = some r := H
            have A14 := Aside0.mk A140
            clear A140
            by_cases c15 : t104 = true
            ·subst c15
             have H1 : (group_Right.l0 k2 l0 l1 l2 (l0.length : Int) (wrap64 (x25_2 + 1))) = some r := by rw [if_pos rfl] at H; exact H
             clear H
             have H := H1
             clear H1
             have H' := Aside0.mk H
             clear H
             have p101 : 0 ≤ (x25_2 : Int) := of_decide_eq_true (by first | (with_reducible assumption) | assumption)
             have q101 : x25_2 < (l0.length : Int) := of_decide_eq_true (by first | (with_reducible assumption) | assumption)
             obtain ⟨ad101, e101, hx101_0⟩ := Kd.at_int HR0.out x25_2 p101 q101
             cases e101
             replace hx101_0 := (HB.out.cell (World.block_lt_of_cell? w _ hx101_0)).trans hx101_0
             replace p101 := eq_true p101
             replace q101 := eq_true q101
             go_wp2_with (first | ((with_reducible refine gate_callee (f := 24) rfl ?_); refine goesL_ (some 32) rfl rfl Try.func24 (by kernel_rfl) rfl #[.int .i64 (rd l0 x25_2), .int .i64 0, .int .i64 120] rfl (by (try simp only [List.map_toArray, List.map_cons, List.map_nil]); first | done | rfl | (simp only [List.length_drop, List.length_take]; rfl)) ?_; (with_reducible refine (group_in.calls (rd l0 x25_2) 0 120 true _ A11.out).mono ?_); rintro e w' ⟨rfl, ⟨nd, rfl⟩⟩; refine ⟨_, rfl, ?_⟩; have p103 : 0 ≤ (x25_2 : Int) := of_decide_eq_true (by first | (with_reducible assumption) | assumption); have q103 : x25_2 < (l1.length : Int) := of_decide_eq_true (by first | (with_reducible assumption) | assumption); obtain ⟨ad103, e103, hx103_0⟩ := Kd.at_int HR1.out x25_2 p103 q103; cases e103; replace hx103_0 := (HB.out.cell (World.block_lt_of_cell? w _ hx103_0)).trans hx103_0; replace p103 := eq_true p103; replace q103 := eq_true q103) | (go_at_call 24; (with_reducible refine (group_in.calls (rd l1 x25_2) 0 100000000 true _ A14.out).mono ?_); rintro e w' ⟨rfl, ⟨nd, rfl⟩⟩))
             go_roundg k2
             case measure => have := HJ3.out; have := HK2.out; omega
             case rel => exact ⟨(wrap64 (x25_2 + 1)), (by first | rfl | (simp; done) | (simp [*]; done)), H', ⟨by have := HJ3.out; have := HK2.out; omega⟩, ⟨by repeat (first | (with_reducible first | exact HB.out | apply below_alloc | apply pw_below_drewN | apply below_drew1) | exact HB.out)⟩⟩
            ·replace c15 := Bool.eq_false_iff.mpr c15
             subst c15
             have H1 : (some 2) = some r := by rw [if_neg (show ¬ (false = true) by decide)] at H; exact H
             clear H
             have H := H1
             clear H1
             obtain rfl := Option.some.inj H
             have p101 : 0 ≤ (x25_2 : Int) := of_decide_eq_true (by first | (with_reducible assumption) | assumption)
             have q101 : x25_2 < (l0.length : Int) := of_decide_eq_true (by first | (with_reducible assumption) | assumption)
             obtain ⟨ad101, e101, hx101_0⟩ := Kd.at_int HR0.out x25_2 p101 q101
             cases e101
             replace hx101_0 := (HB.out.cell (World.block_lt_of_cell? w _ hx101_0)).trans hx101_0
             replace p101 := eq_true p101
             replace q101 := eq_true q101
             go_wp2_with (first | ((with_reducible refine gate_callee (f := 24) rfl ?_); refine goesL_ (some 32) rfl rfl Try.func24 (by kernel_rfl) rfl #[.int .i64 (rd l0 x25_2), .int .i64 0, .int .i64 120] rfl (by (try simp only [List.map_toArray, List.map_cons, List.map_nil]); first | done | rfl | (simp only [List.length_drop, List.length_take]; rfl)) ?_; (with_reducible refine (group_in.calls (rd l0 x25_2) 0 120 true _ A11.out).mono ?_); rintro e w' ⟨rfl, ⟨nd, rfl⟩⟩; refine ⟨_, rfl, ?_⟩; have p103 : 0 ≤ (x25_2 : Int) := of_decide_eq_true (by first | (with_reducible assumption) | assumption); have q103 : x25_2 < (l1.length : Int) := of_decide_eq_true (by first | (with_reducible assumption) | assumption); obtain ⟨ad103, e103, hx103_0⟩ := Kd.at_int HR1.out x25_2 p103 q103; cases e103; replace hx103_0 := (HB.out.cell (World.block_lt_of_cell? w _ hx103_0)).trans hx103_0; replace p103 := eq_true p103; replace q103 := eq_true q103) | (go_at_call 24; (with_reducible refine (group_in.calls (rd l1 x25_2) 0 100000000 false _ A14.out).mono ?_); rintro e w' ⟨rfl, ⟨nd, rfl⟩⟩))
             go_ret
             exact ⟨by first | rfl | (simp [errW_none, errW_some] <;> rfl) | (simp [*, errW_none, errW_some] <;> rfl), by repeat (first | (with_reducible first | exact HB.out | apply below_alloc | apply pw_below_drewN | apply below_drew1) | exact HB.out)⟩
           ·rw [if_neg c13] at H
            exact absurd H (by simp)
          ·replace c12 := Bool.eq_false_iff.mpr c12
           subst c12
           have H1 : (some 2) = some r := by rw [if_neg (show ¬ (false = true) by decide)] at H; exact H
           clear H
           have H := H1
           clear H1
           obtain rfl := Option.some.inj H
           have p101 : 0 ≤ (x25_2 : Int) := of_decide_eq_true (by first | (with_reducible assumption) | assumption)
           have q101 : x25_2 < (l0.length : Int) := of_decide_eq_true (by first | (with_reducible assumption) | assumption)
           obtain ⟨ad101, e101, hx101_0⟩ := Kd.at_int HR0.out x25_2 p101 q101
           cases e101
           replace hx101_0 := (HB.out.cell (World.block_lt_of_cell? w _ hx101_0)).trans hx101_0
           replace p101 := eq_true p101
           replace q101 := eq_true q101
           go_wp2_with (first | ((with_reducible refine gate_callee (f := 24) rfl ?_); refine goesL_ (some 32) rfl rfl Try.func24 (by kernel_rfl) rfl #[.int .i64 (rd l0 x25_2), .int .i64 0, .int .i64 120] rfl (by (try simp only [List.map_toArray, List.map_cons, List.map_nil]); first | done | rfl | (simp only [List.length_drop, List.length_take]; rfl)) ?_; (with_reducible refine (group_in.calls (rd l0 x25_2) 0 120 false _ A11.out).mono ?_); rintro e w' ⟨rfl, ⟨nd, rfl⟩⟩; refine ⟨_, rfl, ?_⟩))
           go_ret
           exact ⟨by first | rfl | (simp [errW_none, errW_some] <;> rfl) | (simp [*, errW_none, errW_some] <;> rfl), by repeat (first | (with_reducible first | exact HB.out | apply below_alloc | apply pw_below_drewN | apply below_drew1) | exact HB.out)⟩
         ·rw [if_neg c10] at H
          exact absurd H (by simp)
        ·rw [if_neg c9] at H
         exact absurd H (by simp)
       ·rw [if_neg c8] at H
        have c8b0 : decide (x25_2 < (l0.length : Int)) = false := decide_eq_false c8
        clear c8
        have H' := Aside0.mk H
        clear H
        go_wp2
        go_loopg [45] k2 (fun kq v45 w' => ∃ (x45_3 : Int), v45 = .int .i64 x45_3 ∧ Aside0 (group_Right.l1 kq l2 l2 (l2.length : Int) x45_3 = some r) ∧ Aside0 (kq ≤ k2) ∧ Aside0 (Below w.heap.size w w'))
        case atStart => exact ⟨(0), (by first | rfl | (simp; done) | (simp [*]; done)), H', ⟨Nat.le_refl _⟩, ⟨by repeat (first | (with_reducible first | exact HB.out | apply below_alloc | apply pw_below_drewN | apply below_drew1) | exact HB.out)⟩⟩
        case round =>
         clear H'
         try clear c1
         try clear p1
         try clear q1
         try clear hx1
         try clear c2
         try clear p2
         try clear c5
         try clear c5b0
         try clear c5b1
         try clear c6
         try clear p6
         try clear c7
         try clear c7b0
         try clear c7b1
         try clear c7b2
         try clear c8
         try clear c8b0
         try clear c9
         try clear c9b0
         try clear c10
         try clear c10b0
         try clear p10
         try clear q10
         try clear hx10
         try clear c12
         try clear c13
         try clear c13b0
         try clear c15
         try clear hx101_0
         try clear hx103_0
         try clear p101
         try clear p103
         try clear p2
         try clear q101
         try clear q103
         obtain ⟨x45_3, rfl, HA, HK3, HB⟩ := hrel
         cases gk with
         | zero => exact absurd HA.out (by simp [group_Right.l1])
         | succ k3 =>
          have H := HA.out
          clear HA
          simp only [group_Right.l1] at H
          by_cases c16 : x45_3 < (l2.length : Int)
          ·rw [if_pos c16] at H
           have c16b0 : decide (x45_3 < (l2.length : Int)) = true := decide_eq_true c16
           clear c16
           by_cases c17 : 0 ≤ x45_3
           ·rw [if_pos c17] at H
            have c17b0 : decide (0 ≤ x45_3) = true := decide_eq_true c17
            clear c17
            by_cases c18 : x45_3 < (l2.length : Int)
            ·rw [if_pos c18] at H
             have c18b0 : decide (x45_3 < (l2.length : Int)) = true := decide_eq_true c18
             clear c18
             have HC19 := Aside0.mk H
             clear H
             have p105 : 0 ≤ (x45_3 : Int) := of_decide_eq_true (by first | (with_reducible assumption) | assumption)
             have q105 : x45_3 < (l2.length : Int) := of_decide_eq_true (by first | (with_reducible assumption) | assumption)
             obtain ⟨ad105, e105, hx105_0, hx105_1, hx105_2, hx105_3⟩ := at_T45 HR2.out x45_3 p105 q105
             cases e105
             replace hx105_0 := (HB.out.cell (World.block_lt_of_cell? w _ hx105_0)).trans hx105_0
             replace hx105_1 := (HB.out.cell (World.block_lt_of_cell? w _ hx105_1)).trans hx105_1
             replace hx105_2 := (HB.out.cell (World.block_lt_of_cell? w _ hx105_2)).trans hx105_2
             replace hx105_3 := (HB.out.cell (World.block_lt_of_cell? w _ hx105_3)).trans hx105_3
             replace p105 := eq_true p105
             replace q105 := eq_true q105
             go_upto_region 14 with (first | ((with_reducible refine gate_dst (N := 9) rfl ?_); (try (refine gate_guard (by rfl) ?_; dsimp only)); refine box_event ?hg (N := 9) ?hd (cs := #[.int .i64 0, .int .i64 0, .int .i64 0, .int .i64 0]) (t := 45) ?hr ?_; (case hd => rfl); (case hg => rfl); (case hr => first | (go_simp; done) | (go_simp; rfl)); intro gb106 hg w20 hbox hb; have n0_ := Aside0.mk (below_step (by repeat (first | (with_reducible first | exact HB.out | apply below_alloc | apply pw_below_drewN | apply below_drew1) | exact HB.out)) hb); have n1_ := Aside0.mk (hbox); have n2_ := Aside0.mk ((by rw [hg]; exact (below_size (by repeat (first | (with_reducible first | exact HB.out | apply below_alloc | apply pw_below_drewN | apply below_drew1) | exact HB.out))) : w.heap.size ≤ gb106)); have n3_ := Aside0.mk ((by rw [hg]; exact (below_size (by repeat (first | (with_reducible first | exact HB.out | apply below_alloc | apply pw_below_drewN | apply below_drew1) | exact HB.out))) : w.heap.size ≤ gb106)); clear HB; have HB := n0_; have BK106 := n1_; have GW106 := n2_; have GE106 := n3_; clear n0_ n1_ n2_ n3_; clear hb hbox hg; have hcz21_0 : w20.cell? ⟨gb106, 0, none⟩ = some (.int .i64 0) := (blk_cell BK106.out 0).trans rfl; have hcz21_1 : w20.cell? ⟨gb106, 1, none⟩ = some (.int .i64 0) := (blk_cell BK106.out 1).trans rfl; have hcz21_2 : w20.cell? ⟨gb106, 2, none⟩ = some (.int .i64 0) := (blk_cell BK106.out 2).trans rfl; have hcz21_3 : w20.cell? ⟨gb106, 3, none⟩ = some (.int .i64 0) := (blk_cell BK106.out 3).trans rfl; have hfz21_0 := blk_frozen BK106.out 0; have hfz21_1 := blk_frozen BK106.out 1; have hfz21_2 := blk_frozen BK106.out 2; have hfz21_3 := blk_frozen BK106.out 3))
             (try simp only [Act.put, List.setIfInBounds_toArray, List.set_cons_zero, List.set_cons_succ])
             go_cut [51, 71] (fun v51 v71 wc => ∃ (kq : Nat) (x51_18 : Int) (x71_18 : Bool), v51 = .int .i64 x51_18 ∧ v71 = .bool x71_18 ∧ Aside0 (group_Right.j3 kq l2 x45_3 l2 (l2.length : Int) x45_3 x51_18 x71_18 = some r) ∧ Aside0 (kq ≤ k3) ∧ Aside0 (wc.heap[gb106]? = some (.cells #[.int .i64 ((rd_T45 l2 x45_3).f0), .int .i64 ((rd_T45 l2 x45_3).f1), .int .i64 ((rd_T45 l2 x45_3).f2), .int .i64 ((rd_T45 l2 x45_3).f3)] 45 (0, 0))) ∧ Aside0 (Below w.heap.size w wc))
             case first =>
              have H := HC19.out
              clear HC19
              replace H := Option.bind_eq_some_iff.mp H
              obtain ⟨t107, A220, H⟩ := H
              replace H : (if t107 = true then ((group_in.f ((rd_T45 l2 x45_3).f1) 0 8).bind fun t108 => (if t108 = true then ((group_in.f ((rd_T45 l2 x45_3).f2) 0 8).bind fun t109 => (if t109 = true then ((group_in.f ((rd_T45 l2 x45_3).f3) 0 100000000).bind fun t110 => (group_Right.j3 k3 l2 x45_3 l2 (l2.length : Int) x45_3 ((rd_T45 l2 x45_3).f0) (!t110))) else (group_Right.j3 k3 l2 x45_3 l2 (l2.length : Int) x45_3 ((rd_T45 l2 x45_3).f0) true))) else (group_Right.j3 k3 l2 x45_3 l2 (l2.length : Int) x45_3 ((rd_T45 l2 x45_3).f0) true))) else (group_Right.j3 k3 l2 x45_3 l2 (l2.length : Int) x45_3 ((rd_T45 l2 x45_3).f0) true)) = some r := H
              have A22 := Aside0.mk A220
              clear A220
              by_cases c23 : t107 = true
              ·subst c23
               have H1 : ((group_in.f ((rd_T45 l2 x45_3).f1) 0 8).bind fun t108 => (if t108 = true then ((group_in.f ((rd_T45 l2 x45_3).f2) 0 8).bind fun t109 => (if t109 = true then ((group_in.f ((rd_T45 l2 x45_3).f3) 0 100000000).bind fun t110 => (group_Right.j3 k3 l2 x45_3 l2 (l2.length : Int) x45_3 ((rd_T45 l2 x45_3).f0) (!t110))) else (group_Right.j3 k3 l2 x45_3 l2 (l2.length : Int) x45_3 ((rd_T45 l2 x45_3).f0) true))) else (group_Right.j3 k3 l2 x45_3 l2 (l2.length : Int) x45_3 ((rd_T45 l2 x45_3).f0) true))) = some r := by rw [if_pos rfl] at H; exact H
               clear H
               have H := H1
               clear H1
               replace H := Option.bind_eq_some_iff.mp H
               obtain ⟨t108, A240, H⟩ := H
               replace H : (if t108 = true then ((group_in.f ((rd_T45 l2 x45_3).f2) 0 8).bind fun t109 => (if t109 = true then ((group_in.f ((rd_T45 l2 x45_3).f3) 0 100000000).bind fun t110 => (group_Right.j3 k3 l2 x45_3 l2 (l2.length : Int) x45_3 ((rd_T45 l2 x45_3).f0) (!t110))) else (group_Right.j3 k3 l2 x45_3 l2 (l2.length : Int) x45_3 ((rd_T45 l2 x45_3).f0) true))) else (group_Right.j3 k3 l2 x45_3 l2 (l2.length : Int) x45_3 ((rd_T45 l2 x45_3).f0) true)) = some r := H
               have A24 := Aside0.mk A240
               clear A240
               by_cases c25 : t108 = true
               ·subst c25
                have H1 : ((group_in.f ((rd_T45 l2 x45_3).f2) 0 8).bind fun t109 => (if t109 = true then ((group_in.f ((rd_T45 l2 x45_3).f3) 0 100000000).bind fun t110 => (group_Right.j3 k3 l2 x45_3 l2 (l2.length : Int) x45_3 ((rd_T45 l2 x45_3).f0) (!t110))) else (group_Right.j3 k3 l2 x45_3 l2 (l2.length : Int) x45_3 ((rd_T45 l2 x45_3).f0) true))) = some r := by rw [if_pos rfl] at H; exact H
                clear H
                have H := H1
                clear H1
                replace H := Option.bind_eq_some_iff.mp H
                obtain ⟨t109, A260, H⟩ := H
                replace H : (if t109 = true then ((group_in.f ((rd_T45 l2 x45_3).f3) 0 100000000).bind fun t110 => (group_Right.j3 k3 l2 x45_3 l2 (l2.length : Int) x45_3 ((rd_T45 l2 x45_3).f0) (!t110))) else (group_Right.j3 k3 l2 x45_3 l2 (l2.length : Int) x45_3 ((rd_T45 l2 x45_3).f0) true)) = some r := H
                have A26 := Aside0.mk A260
                clear A260
                by_cases c27 : t109 = true
                ·subst c27
                 have H1 : ((group_in.f ((rd_T45 l2 x45_3).f3) 0 100000000).bind fun t110 => (group_Right.j3 k3 l2 x45_3 l2 (l2.length : Int) x45_3 ((rd_T45 l2 x45_3).f0) (!t110))) = some r := by rw [if_pos rfl] at H; exact H
                 clear H
                 have H := H1
                 clear H1
                 replace H := Option.bind_eq_some_iff.mp H
                 obtain ⟨t110, A280, H⟩ := H
                 replace H : (group_Right.j3 k3 l2 x45_3 l2 (l2.length : Int) x45_3 ((rd_T45 l2 x45_3).f0) (!t110)) = some r := H
                 have A28 := Aside0.mk A280
                 clear A280
                 have H' := Aside0.mk H
                 clear H
                 have hcz29_0 : w20.cell? ⟨gb106, 0, none⟩ = some (.int .i64 0) := (blk_cell BK106.out 0).trans rfl
                 have hcz29_1 : w20.cell? ⟨gb106, 1, none⟩ = some (.int .i64 0) := (blk_cell BK106.out 1).trans rfl
                 have hcz29_2 : w20.cell? ⟨gb106, 2, none⟩ = some (.int .i64 0) := (blk_cell BK106.out 2).trans rfl
                 have hcz29_3 : w20.cell? ⟨gb106, 3, none⟩ = some (.int .i64 0) := (blk_cell BK106.out 3).trans rfl
                 have hfz29_0 := blk_frozen BK106.out 0
                 have hfz29_1 := blk_frozen BK106.out 1
                 have hfz29_2 := blk_frozen BK106.out 2
                 have hfz29_3 := blk_frozen BK106.out 3
                 go_wp2_with (first | ((with_reducible refine gate_callee (f := 24) rfl ?_); refine goesL_ (some 52) rfl rfl Try.func24 (by kernel_rfl) rfl #[.int .i64 ((rd_T45 l2 x45_3).f0), .int .i64 1, .int .i64 9999] rfl (by (try simp only [List.map_toArray, List.map_cons, List.map_nil]); first | done | rfl | (simp only [List.length_drop, List.length_take]; rfl)) ?_; (with_reducible refine (group_in.calls ((rd_T45 l2 x45_3).f0) 1 9999 true _ A22.out).mono ?_); rintro e w' ⟨rfl, ⟨nd, rfl⟩⟩; refine ⟨_, rfl, ?_⟩) | (go_at_call 24; (with_reducible refine (group_in.calls ((rd_T45 l2 x45_3).f1) 0 8 true _ A24.out).mono ?_); rintro e w' ⟨rfl, ⟨nd, rfl⟩⟩) | (go_at_call 24; (with_reducible refine (group_in.calls ((rd_T45 l2 x45_3).f2) 0 8 true _ A26.out).mono ?_); rintro e w' ⟨rfl, ⟨nd, rfl⟩⟩) | (go_at_call 24; (with_reducible refine (group_in.calls ((rd_T45 l2 x45_3).f3) 0 100000000 t110 _ A28.out).mono ?_); rintro e w' ⟨rfl, ⟨nd, rfl⟩⟩))
                 go_meet
                 case rel => exact ⟨_, ((rd_T45 l2 x45_3).f0), (!t110), (by first | rfl | (simp; done) | (simp [*]; done)), (by first | rfl | (simp; done) | (simp [*]; done)), H', ⟨by have := HJ3.out; have := HK2.out; have := HK3.out; first | omega | exact Nat.le_refl _⟩, ⟨by (with_reducible repeat (first | refine blk_drewN ?_ _ | refine blk_drew ?_ | refine blk_alloc ?_ _)); refine blk_put (cs := #[.int .i64 ((rd_T45 l2 x45_3).f0), .int .i64 ((rd_T45 l2 x45_3).f1), .int .i64 ((rd_T45 l2 x45_3).f2), .int .i64 0]) ?_ 3 _ rfl; (with_reducible repeat (first | refine blk_drewN ?_ _ | refine blk_drew ?_ | refine blk_alloc ?_ _)); refine blk_put (cs := #[.int .i64 ((rd_T45 l2 x45_3).f0), .int .i64 ((rd_T45 l2 x45_3).f1), .int .i64 0, .int .i64 0]) ?_ 2 _ rfl; (with_reducible repeat (first | refine blk_drewN ?_ _ | refine blk_drew ?_ | refine blk_alloc ?_ _)); refine blk_put (cs := #[.int .i64 ((rd_T45 l2 x45_3).f0), .int .i64 0, .int .i64 0, .int .i64 0]) ?_ 1 _ rfl; (with_reducible repeat (first | refine blk_drewN ?_ _ | refine blk_drew ?_ | refine blk_alloc ?_ _)); refine blk_put (cs := #[.int .i64 0, .int .i64 0, .int .i64 0, .int .i64 0]) ?_ 0 _ rfl; (with_reducible repeat (first | refine blk_drewN ?_ _ | refine blk_drew ?_ | refine blk_alloc ?_ _)); exact BK106.out⟩, ⟨by repeat (first | (with_reducible first | exact HB.out | apply below_alloc | apply pw_below_drewN | apply below_drew1 | refine below_set ?_ GE106.out) | exact HB.out)⟩⟩
                ·replace c27 := Bool.eq_false_iff.mpr c27
                 subst c27
                 have H1 : (group_Right.j3 k3 l2 x45_3 l2 (l2.length : Int) x45_3 ((rd_T45 l2 x45_3).f0) true) = some r := by rw [if_neg (show ¬ (false = true) by decide)] at H; exact H
                 clear H
                 have H := H1
                 clear H1
                 have H' := Aside0.mk H
                 clear H
                 have hcz30_0 : w20.cell? ⟨gb106, 0, none⟩ = some (.int .i64 0) := (blk_cell BK106.out 0).trans rfl
                 have hcz30_1 : w20.cell? ⟨gb106, 1, none⟩ = some (.int .i64 0) := (blk_cell BK106.out 1).trans rfl
                 have hcz30_2 : w20.cell? ⟨gb106, 2, none⟩ = some (.int .i64 0) := (blk_cell BK106.out 2).trans rfl
                 have hcz30_3 : w20.cell? ⟨gb106, 3, none⟩ = some (.int .i64 0) := (blk_cell BK106.out 3).trans rfl
                 have hfz30_0 := blk_frozen BK106.out 0
                 have hfz30_1 := blk_frozen BK106.out 1
                 have hfz30_2 := blk_frozen BK106.out 2
                 have hfz30_3 := blk_frozen BK106.out 3
                 go_wp2_with (first | ((with_reducible refine gate_callee (f := 24) rfl ?_); refine goesL_ (some 52) rfl rfl Try.func24 (by kernel_rfl) rfl #[.int .i64 ((rd_T45 l2 x45_3).f0), .int .i64 1, .int .i64 9999] rfl (by (try simp only [List.map_toArray, List.map_cons, List.map_nil]); first | done | rfl | (simp only [List.length_drop, List.length_take]; rfl)) ?_; (with_reducible refine (group_in.calls ((rd_T45 l2 x45_3).f0) 1 9999 true _ A22.out).mono ?_); rintro e w' ⟨rfl, ⟨nd, rfl⟩⟩; refine ⟨_, rfl, ?_⟩) | (go_at_call 24; (with_reducible refine (group_in.calls ((rd_T45 l2 x45_3).f1) 0 8 true _ A24.out).mono ?_); rintro e w' ⟨rfl, ⟨nd, rfl⟩⟩) | (go_at_call 24; (with_reducible refine (group_in.calls ((rd_T45 l2 x45_3).f2) 0 8 false _ A26.out).mono ?_); rintro e w' ⟨rfl, ⟨nd, rfl⟩⟩))
                 go_meet
                 case rel => exact ⟨_, ((rd_T45 l2 x45_3).f0), (true), (by first | rfl | (simp; done) | (simp [*]; done)), (by first | rfl | (simp; done) | (simp [*]; done)), H', ⟨by have := HJ3.out; have := HK2.out; have := HK3.out; first | omega | exact Nat.le_refl _⟩, ⟨by (with_reducible repeat (first | refine blk_drewN ?_ _ | refine blk_drew ?_ | refine blk_alloc ?_ _)); refine blk_put (cs := #[.int .i64 ((rd_T45 l2 x45_3).f0), .int .i64 ((rd_T45 l2 x45_3).f1), .int .i64 ((rd_T45 l2 x45_3).f2), .int .i64 0]) ?_ 3 _ rfl; (with_reducible repeat (first | refine blk_drewN ?_ _ | refine blk_drew ?_ | refine blk_alloc ?_ _)); refine blk_put (cs := #[.int .i64 ((rd_T45 l2 x45_3).f0), .int .i64 ((rd_T45 l2 x45_3).f1), .int .i64 0, .int .i64 0]) ?_ 2 _ rfl; (with_reducible repeat (first | refine blk_drewN ?_ _ | refine blk_drew ?_ | refine blk_alloc ?_ _)); refine blk_put (cs := #[.int .i64 ((rd_T45 l2 x45_3).f0), .int .i64 0, .int .i64 0, .int .i64 0]) ?_ 1 _ rfl; (with_reducible repeat (first | refine blk_drewN ?_ _ | refine blk_drew ?_ | refine blk_alloc ?_ _)); refine blk_put (cs := #[.int .i64 0, .int .i64 0, .int .i64 0, .int .i64 0]) ?_ 0 _ rfl; (with_reducible repeat (first | refine blk_drewN ?_ _ | refine blk_drew ?_ | refine blk_alloc ?_ _)); exact BK106.out⟩, ⟨by repeat (first | (with_reducible first | exact HB.out | apply below_alloc | apply pw_below_drewN | apply below_drew1 | refine below_set ?_ GE106.out) | exact HB.out)⟩⟩
               ·replace c25 := Bool.eq_false_iff.mpr c25
                subst c25
                have H1 : (group_Right.j3 k3 l2 x45_3 l2 (l2.length : Int) x45_3 ((rd_T45 l2 x45_3).f0) true) = some r := by rw [if_neg (show ¬ (false = true) by decide)] at H; exact H
                clear H
                have H := H1
                clear H1
                have H' := Aside0.mk H
                clear H
                have hcz31_0 : w20.cell? ⟨gb106, 0, none⟩ = some (.int .i64 0) := (blk_cell BK106.out 0).trans rfl
                have hcz31_1 : w20.cell? ⟨gb106, 1, none⟩ = some (.int .i64 0) := (blk_cell BK106.out 1).trans rfl
                have hcz31_2 : w20.cell? ⟨gb106, 2, none⟩ = some (.int .i64 0) := (blk_cell BK106.out 2).trans rfl
                have hcz31_3 : w20.cell? ⟨gb106, 3, none⟩ = some (.int .i64 0) := (blk_cell BK106.out 3).trans rfl
                have hfz31_0 := blk_frozen BK106.out 0
                have hfz31_1 := blk_frozen BK106.out 1
                have hfz31_2 := blk_frozen BK106.out 2
                have hfz31_3 := blk_frozen BK106.out 3
                go_wp2_with (first | ((with_reducible refine gate_callee (f := 24) rfl ?_); refine goesL_ (some 52) rfl rfl Try.func24 (by kernel_rfl) rfl #[.int .i64 ((rd_T45 l2 x45_3).f0), .int .i64 1, .int .i64 9999] rfl (by (try simp only [List.map_toArray, List.map_cons, List.map_nil]); first | done | rfl | (simp only [List.length_drop, List.length_take]; rfl)) ?_; (with_reducible refine (group_in.calls ((rd_T45 l2 x45_3).f0) 1 9999 true _ A22.out).mono ?_); rintro e w' ⟨rfl, ⟨nd, rfl⟩⟩; refine ⟨_, rfl, ?_⟩) | (go_at_call 24; (with_reducible refine (group_in.calls ((rd_T45 l2 x45_3).f1) 0 8 false _ A24.out).mono ?_); rintro e w' ⟨rfl, ⟨nd, rfl⟩⟩))
                go_meet
                case rel => exact ⟨_, ((rd_T45 l2 x45_3).f0), (true), (by first | rfl | (simp; done) | (simp [*]; done)), (by first | rfl | (simp; done) | (simp [*]; done)), H', ⟨by have := HJ3.out; have := HK2.out; have := HK3.out; first | omega | exact Nat.le_refl _⟩, ⟨by (with_reducible repeat (first | refine blk_drewN ?_ _ | refine blk_drew ?_ | refine blk_alloc ?_ _)); refine blk_put (cs := #[.int .i64 ((rd_T45 l2 x45_3).f0), .int .i64 ((rd_T45 l2 x45_3).f1), .int .i64 ((rd_T45 l2 x45_3).f2), .int .i64 0]) ?_ 3 _ rfl; (with_reducible repeat (first | refine blk_drewN ?_ _ | refine blk_drew ?_ | refine blk_alloc ?_ _)); refine blk_put (cs := #[.int .i64 ((rd_T45 l2 x45_3).f0), .int .i64 ((rd_T45 l2 x45_3).f1), .int .i64 0, .int .i64 0]) ?_ 2 _ rfl; (with_reducible repeat (first | refine blk_drewN ?_ _ | refine blk_drew ?_ | refine blk_alloc ?_ _)); refine blk_put (cs := #[.int .i64 ((rd_T45 l2 x45_3).f0), .int .i64 0, .int .i64 0, .int .i64 0]) ?_ 1 _ rfl; (with_reducible repeat (first | refine blk_drewN ?_ _ | refine blk_drew ?_ | refine blk_alloc ?_ _)); refine blk_put (cs := #[.int .i64 0, .int .i64 0, .int .i64 0, .int .i64 0]) ?_ 0 _ rfl; (with_reducible repeat (first | refine blk_drewN ?_ _ | refine blk_drew ?_ | refine blk_alloc ?_ _)); exact BK106.out⟩, ⟨by repeat (first | (with_reducible first | exact HB.out | apply below_alloc | apply pw_below_drewN | apply below_drew1 | refine below_set ?_ GE106.out) | exact HB.out)⟩⟩
              ·replace c23 := Bool.eq_false_iff.mpr c23
               subst c23
               have H1 : (group_Right.j3 k3 l2 x45_3 l2 (l2.length : Int) x45_3 ((rd_T45 l2 x45_3).f0) true) = some r := by rw [if_neg (show ¬ (false = true) by decide)] at H; exact H
               clear H
               have H := H1
               clear H1
               have H' := Aside0.mk H
               clear H
               have hcz32_0 : w20.cell? ⟨gb106, 0, none⟩ = some (.int .i64 0) := (blk_cell BK106.out 0).trans rfl
               have hcz32_1 : w20.cell? ⟨gb106, 1, none⟩ = some (.int .i64 0) := (blk_cell BK106.out 1).trans rfl
               have hcz32_2 : w20.cell? ⟨gb106, 2, none⟩ = some (.int .i64 0) := (blk_cell BK106.out 2).trans rfl
               have hcz32_3 : w20.cell? ⟨gb106, 3, none⟩ = some (.int .i64 0) := (blk_cell BK106.out 3).trans rfl
               have hfz32_0 := blk_frozen BK106.out 0
               have hfz32_1 := blk_frozen BK106.out 1
               have hfz32_2 := blk_frozen BK106.out 2
               have hfz32_3 := blk_frozen BK106.out 3
               go_wp2_with (first | ((with_reducible refine gate_callee (f := 24) rfl ?_); refine goesL_ (some 52) rfl rfl Try.func24 (by kernel_rfl) rfl #[.int .i64 ((rd_T45 l2 x45_3).f0), .int .i64 1, .int .i64 9999] rfl (by (try simp only [List.map_toArray, List.map_cons, List.map_nil]); first | done | rfl | (simp only [List.length_drop, List.length_take]; rfl)) ?_; (with_reducible refine (group_in.calls ((rd_T45 l2 x45_3).f0) 1 9999 false _ A22.out).mono ?_); rintro e w' ⟨rfl, ⟨nd, rfl⟩⟩; refine ⟨_, rfl, ?_⟩))
               go_meet
               case rel => exact ⟨_, ((rd_T45 l2 x45_3).f0), (true), (by first | rfl | (simp; done) | (simp [*]; done)), (by first | rfl | (simp; done) | (simp [*]; done)), H', ⟨by have := HJ3.out; have := HK2.out; have := HK3.out; first | omega | exact Nat.le_refl _⟩, ⟨by (with_reducible repeat (first | refine blk_drewN ?_ _ | refine blk_drew ?_ | refine blk_alloc ?_ _)); refine blk_put (cs := #[.int .i64 ((rd_T45 l2 x45_3).f0), .int .i64 ((rd_T45 l2 x45_3).f1), .int .i64 ((rd_T45 l2 x45_3).f2), .int .i64 0]) ?_ 3 _ rfl; (with_reducible repeat (first | refine blk_drewN ?_ _ | refine blk_drew ?_ | refine blk_alloc ?_ _)); refine blk_put (cs := #[.int .i64 ((rd_T45 l2 x45_3).f0), .int .i64 ((rd_T45 l2 x45_3).f1), .int .i64 0, .int .i64 0]) ?_ 2 _ rfl; (with_reducible repeat (first | refine blk_drewN ?_ _ | refine blk_drew ?_ | refine blk_alloc ?_ _)); refine blk_put (cs := #[.int .i64 ((rd_T45 l2 x45_3).f0), .int .i64 0, .int .i64 0, .int .i64 0]) ?_ 1 _ rfl; (with_reducible repeat (first | refine blk_drewN ?_ _ | refine blk_drew ?_ | refine blk_alloc ?_ _)); refine blk_put (cs := #[.int .i64 0, .int .i64 0, .int .i64 0, .int .i64 0]) ?_ 0 _ rfl; (with_reducible repeat (first | refine blk_drewN ?_ _ | refine blk_drew ?_ | refine blk_alloc ?_ _)); exact BK106.out⟩, ⟨by repeat (first | (with_reducible first | exact HB.out | apply below_alloc | apply pw_below_drewN | apply below_drew1 | refine below_set ?_ GE106.out) | exact HB.out)⟩⟩
             case rest =>
              clear HC19
              try clear c1
              try clear p1
              try clear q1
              try clear hx1
              try clear c2
              try clear p2
              try clear c5
              try clear c5b0
              try clear c5b1
              try clear c6
              try clear p6
              try clear c7
              try clear c7b0
              try clear c7b1
              try clear c7b2
              try clear c8
              try clear c8b0
              try clear c9
              try clear c9b0
              try clear c10
              try clear c10b0
              try clear p10
              try clear q10
              try clear hx10
              try clear c12
              try clear c13
              try clear c13b0
              try clear c15
              try clear c16
              try clear c16b0
              try clear c17
              try clear c17b0
              try clear c18
              try clear c18b0
              try clear c23
              try clear c24
              try clear c25
              try clear c27
              try clear hcz21_0
              try clear hcz21_1
              try clear hcz21_2
              try clear hcz21_3
              try clear hcz29_0
              try clear hcz29_1
              try clear hcz29_2
              try clear hcz29_3
              try clear hcz30_0
              try clear hcz30_1
              try clear hcz30_2
              try clear hcz30_3
              try clear hcz31_0
              try clear hcz31_1
              try clear hcz31_2
              try clear hcz31_3
              try clear hcz32_0
              try clear hcz32_1
              try clear hcz32_2
              try clear hcz32_3
              try clear hfz21_0
              try clear hfz21_1
              try clear hfz21_2
              try clear hfz21_3
              try clear hfz29_0
              try clear hfz29_1
              try clear hfz29_2
              try clear hfz29_3
              try clear hfz30_0
              try clear hfz30_1
              try clear hfz30_2
              try clear hfz30_3
              try clear hfz31_0
              try clear hfz31_1
              try clear hfz31_2
              try clear hfz31_3
              try clear hfz32_0
              try clear hfz32_1
              try clear hfz32_2
              try clear hfz32_3
              try clear hx101_0
              try clear hx103_0
              try clear hx105_0
              try clear hx105_1
              try clear hx105_2
              try clear hx105_3
              try clear p1
              try clear p10
              try clear p101
              try clear p103
              try clear p105
              try clear p2
              try clear p6
              try clear q1
              try clear q10
              try clear q101
              try clear q103
              try clear q105
              obtain ⟨kq, x51_18, x71_18, rfl, rfl, HA, HJ18, BK106, HB⟩ := hcut
              cases kq with
              | zero => exact absurd HA.out (by simp [group_Right.j3])
              | succ kj18 =>
               have H := HA.out
               clear HA
               simp only [group_Right.j3] at H
               by_cases c33 : x71_18 = true
               ·subst c33
                have H1 : (some 2) = some r := by rw [if_pos rfl] at H; exact H
                clear H
                have H := H1
                clear H1
                obtain rfl := Option.some.inj H
                go_wp2
                go_ret
                exact ⟨by first | rfl | (simp [errW_none, errW_some] <;> rfl) | (simp [*, errW_none, errW_some] <;> rfl), by repeat (first | (with_reducible first | exact HB.out | apply below_alloc | apply pw_below_drewN | apply below_drew1 | refine below_set ?_ GE106.out) | exact HB.out)⟩
               ·replace c33 := Bool.eq_false_iff.mpr c33
                subst c33
                have H1 : (if 0 ≤ x45_3 then (if x45_3 ≤ (l2.length : Int) then ((offers_has.f (l2.take (x45_3 : Int).toNat) ((rd_T45 l2 x45_3).f0)).bind fun t115 => (if t115 = true then (some 7) else (group_Right.l1 kj18 l2 l2 (l2.length : Int) (wrap64 (x45_3 + 1))))) else (none)) else (none)) = some r := by rw [if_neg (show ¬ (false = true) by decide)] at H; exact H
                clear H
                have H := H1
                clear H1
                by_cases c34 : 0 ≤ x45_3
                ·rw [if_pos c34] at H
                 have c34b0 := eq_true c34
                 have c34b1 : decide (0 ≤ x45_3) = true := decide_eq_true c34
                 clear c34
                 by_cases c35 : x45_3 ≤ (l2.length : Int)
                 ·rw [if_pos c35] at H
                  have c35b0 := eq_true c35
                  have c35b1 : decide (x45_3 ≤ (l2.length : Int)) = true := decide_eq_true c35
                  clear c35
                  obtain ⟨y111, hy111⟩ : ∃ y_ : List (S45), y_ = (l2.take (x45_3 : Int).toNat) := ⟨_, rfl⟩
                  replace H : ((offers_has.f y111 ((rd_T45 l2 x45_3).f0)).bind fun t115 => (if t115 = true then (some 7) else (group_Right.l1 kj18 l2 l2 (l2.length : Int) (wrap64 (x45_3 + 1))))) = some r := by first | (rw [hy111]; with_reducible exact H) | (have H2_ := (Option.bind_some _ _).symm.trans H; rw [hy111]; with_reducible exact H2_) | (have H2_ := (Option.bind_some _ _).symm.trans H; with_reducible exact H2_) | with_reducible exact H | (rw [hy111]; exact H) | exact H
                  have Ny111 := Aside0.mk hy111
                  clear hy111
                  replace H := Option.bind_eq_some_iff.mp H
                  obtain ⟨t115, A360, H⟩ := H
                  replace H : (if t115 = true then (some 7) else (group_Right.l1 kj18 l2 l2 (l2.length : Int) (wrap64 (x45_3 + 1)))) = some r := H
                  have A36 := Aside0.mk A360
                  clear A360
                  by_cases c37 : t115 = true
                  ·subst c37
                   have H1 : (some 7) = some r := by rw [if_pos rfl] at H; exact H
                   clear H
                   have H := H1
                   clear H1
                   obtain rfl := Option.some.inj H
                   have q38 : (x45_3 : Int) ≤ ((l2.length : Int) : Int) := of_decide_eq_true (by first | (with_reducible assumption) | assumption)
                   obtain ⟨i038, hi038, _, hsz38, _⟩ := info_parts info45
                   have hroom38 : l2.length ≤ c2 := HC2.out
                   have hC38 : Kd.C k45 _ (some ad105) l2.length l2 := HR2.out
                   have hcut38 := cut_to (P := Try.prog) 23 45 .i64 Try.underlying23 hi038 (some ad105) l2.length c2 x45_3 (of_decide_eq_true (by first | (with_reducible assumption) | assumption)) q38 hroom38
                   have hr38 := Kd.C_take (m := (x45_3 : Int).toNat) hC38 (by omega)
                   have hy38 : y111.length = (x45_3 : Int).toNat := (by rw [Ny111.out, List.length_take]; omega)
                   rw [← Ny111.out] at hr38
                   rw [← hy38] at hcut38
                   have HR114 := Aside0.mk hr38
                   have HC114 := Aside0.mk (show y111.length ≤ c2 from by omega)
                   clear hr38 hC38 hroom38 hi038 hsz38
                   have KY38 := Aside0.mk hy38
                   clear hy38
                   replace q38 := eq_true q38
                   go_wp2_with (first | (go_at_call 25; (with_reducible refine (offers_has.calls _ _ y111 ((rd_T45 l2 x45_3).f0) gb106 true _ ?side1 ?side2 ?side3 A36.out).mono ?_); (case side3 => exact (blk_cell (by (with_reducible repeat (first | refine blk_drewN ?_ _ | refine blk_drew ?_ | refine blk_alloc ?_ _)); exact BK106.out) 0).trans rfl); (case side1 => repeat (first | exact (Kd.C_below HR114.out HB.out) | (with_reducible refine Kd.C_alloc ?_ _) | (with_reducible refine Kd.C_drewN ?_ _) | (with_reducible refine Kd.C_drew ?_))); (case side2 => exact HC114.out); rintro e w39 ⟨rfl, hb⟩; have n0_ := Aside0.mk (blk_below (g := gb106) (o := .cells #[.int .i64 ((rd_T45 l2 x45_3).f0), .int .i64 ((rd_T45 l2 x45_3).f1), .int .i64 ((rd_T45 l2 x45_3).f2), .int .i64 ((rd_T45 l2 x45_3).f3)] 45 (0, 0)) (by (with_reducible repeat (first | refine blk_drewN ?_ _ | refine blk_drew ?_ | refine blk_alloc ?_ _)); exact BK106.out) hb); have n1_ := Aside0.mk (below_step (by repeat (first | (with_reducible first | exact HB.out | apply below_alloc | apply pw_below_drewN | apply below_drew1 | refine below_set ?_ GE106.out) | exact HB.out)) hb); clear BK106; clear HB; have BK106 := n0_; have HB := n1_; clear n0_ n1_; (try clear hb); (try clear hb2); (try clear hk); (try clear hi)))
                   go_ret
                   exact ⟨by first | rfl | (simp [errW_none, errW_some] <;> rfl) | (simp [*, errW_none, errW_some] <;> rfl), by repeat (first | (with_reducible first | exact HB.out | apply below_alloc | apply pw_below_drewN | apply below_drew1 | refine below_set ?_ GE106.out) | exact HB.out)⟩
                  ·replace c37 := Bool.eq_false_iff.mpr c37
                   subst c37
                   have H1 : (group_Right.l1 kj18 l2 l2 (l2.length : Int) (wrap64 (x45_3 + 1))) = some r := by rw [if_neg (show ¬ (false = true) by decide)] at H; exact H
                   clear H
                   have H := H1
                   clear H1
                   have H' := Aside0.mk H
                   clear H
                   have q40 : (x45_3 : Int) ≤ ((l2.length : Int) : Int) := of_decide_eq_true (by first | (with_reducible assumption) | assumption)
                   obtain ⟨i040, hi040, _, hsz40, _⟩ := info_parts info45
                   have hroom40 : l2.length ≤ c2 := HC2.out
                   have hC40 : Kd.C k45 _ (some ad105) l2.length l2 := HR2.out
                   have hcut40 := cut_to (P := Try.prog) 23 45 .i64 Try.underlying23 hi040 (some ad105) l2.length c2 x45_3 (of_decide_eq_true (by first | (with_reducible assumption) | assumption)) q40 hroom40
                   have hr40 := Kd.C_take (m := (x45_3 : Int).toNat) hC40 (by omega)
                   have hy40 : y111.length = (x45_3 : Int).toNat := (by rw [Ny111.out, List.length_take]; omega)
                   rw [← Ny111.out] at hr40
                   rw [← hy40] at hcut40
                   have HR114 := Aside0.mk hr40
                   have HC114 := Aside0.mk (show y111.length ≤ c2 from by omega)
                   clear hr40 hC40 hroom40 hi040 hsz40
                   have KY40 := Aside0.mk hy40
                   clear hy40
                   replace q40 := eq_true q40
                   go_wp2_with (first | (go_at_call 25; (with_reducible refine (offers_has.calls _ _ y111 ((rd_T45 l2 x45_3).f0) gb106 false _ ?side1 ?side2 ?side3 A36.out).mono ?_); (case side3 => exact (blk_cell (by (with_reducible repeat (first | refine blk_drewN ?_ _ | refine blk_drew ?_ | refine blk_alloc ?_ _)); exact BK106.out) 0).trans rfl); (case side1 => repeat (first | exact (Kd.C_below HR114.out HB.out) | (with_reducible refine Kd.C_alloc ?_ _) | (with_reducible refine Kd.C_drewN ?_ _) | (with_reducible refine Kd.C_drew ?_))); (case side2 => exact HC114.out); rintro e w41 ⟨rfl, hb⟩; have n0_ := Aside0.mk (blk_below (g := gb106) (o := .cells #[.int .i64 ((rd_T45 l2 x45_3).f0), .int .i64 ((rd_T45 l2 x45_3).f1), .int .i64 ((rd_T45 l2 x45_3).f2), .int .i64 ((rd_T45 l2 x45_3).f3)] 45 (0, 0)) (by (with_reducible repeat (first | refine blk_drewN ?_ _ | refine blk_drew ?_ | refine blk_alloc ?_ _)); exact BK106.out) hb); have n1_ := Aside0.mk (below_step (by repeat (first | (with_reducible first | exact HB.out | apply below_alloc | apply pw_below_drewN | apply below_drew1 | refine below_set ?_ GE106.out) | exact HB.out)) hb); clear BK106; clear HB; have BK106 := n0_; have HB := n1_; clear n0_ n1_; (try clear hb); (try clear hb2); (try clear hk); (try clear hi)))
                   go_roundg kj18
                   case measure => have := HJ3.out; have := HK2.out; have := HK3.out; have := HJ18.out; omega
                   case rel => exact ⟨(wrap64 (x45_3 + 1)), (by first | rfl | (simp; done) | (simp [*]; done)), H', ⟨by have := HJ3.out; have := HK2.out; have := HK3.out; have := HJ18.out; omega⟩, ⟨by repeat (first | (with_reducible first | exact HB.out | apply below_alloc | apply pw_below_drewN | apply below_drew1 | refine below_set ?_ GE106.out) | exact HB.out)⟩⟩
                 ·rw [if_neg c35] at H
                  exact absurd H (by simp)
                ·rw [if_neg c34] at H
                 exact absurd H (by simp)
            ·rw [if_neg c18] at H
             exact absurd H (by simp)
           ·rw [if_neg c17] at H
            exact absurd H (by simp)
          ·rw [if_neg c16] at H
           have c16b0 : decide (x45_3 < (l2.length : Int)) = false := decide_eq_false c16
           clear c16
           obtain rfl := Option.some.inj H
           go_wp2
           go_ret
           exact ⟨by first | rfl | (simp [errW_none, errW_some] <;> rfl) | (simp [*, errW_none, errW_some] <;> rfl), by repeat (first | (with_reducible first | exact HB.out | apply below_alloc | apply pw_below_drewN | apply below_drew1) | exact HB.out)⟩
    ·rw [if_neg c7] at H
     have c7b0 : ((l0.length : Int) == (l1.length : Int)) = false := beq_eq_false_iff_ne.mpr c7
     have c7b1 : ((l0.length : Int) != (l1.length : Int)) = true := bne_iff_ne.mpr c7
     have c7b2 : (l0.length == l1.length) = false := by first | simpa using c7 | (simp at c7 ⊢; omega)
     obtain rfl := Option.some.inj H
     go_wp2
     go_ret
     exact ⟨by first | rfl | (simp [errW_none, errW_some] <;> rfl) | (simp [*, errW_none, errW_some] <;> rfl), by repeat (first | (with_reducible first | exact HB.out | apply below_alloc | apply pw_below_drewN | apply below_drew1) | exact HB.out)⟩


end Go.Proofs.Ytdklkjgcnibbgaa.A
