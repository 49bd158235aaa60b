/- What Best computes: the table of best divisions and its output. Condition: a right group. -/
import Derived.Test.YtdklkjgcnibbgaaGPa
import Derived.Test.YtdklkjgcnibbgaaAx11
import Derived.Test.YtdklkjgcnibbgaaAx27
import Derived.Test.YtdklkjgcnibbgaaAx12
import Derived.Test.YtdklkjgcnibbgaaAx4
namespace Go.Proofs.Ytdklkjgcnibbgaa.Pure
open Go.RowKit Go.Proofs.Ytdklkjgcnibbgaa.A Go.Proofs.YtdklkjgcnibbgaaW.PrintWords Go.Proofs.YtdklkjgcnibbgaaW.PrintLast Go.Proofs.YtdklkjgcnibbgaaW.PrintMore
set_option linter.unusedVariables false
set_option linter.unusedSimpArgs false
/- Sets of persons as numbers: the bits' operations below 256, a set's members. No condition. -/
theorem bit_test : ∀ m : Fin 256, ∀ p : Fin 8, decide (Go.bits .and .i64 (shr .i64 (m.val : Int) (p.val : Int)) 1 = 1) = m.val.testBit p.val := by decide +kernel
theorem bit_test2 : ∀ m : Fin 256, ∀ p : Fin 8, decide (Int.tmod (shr .i64 (m.val : Int) (IntKind.u64.wrap (p.val : Int))) 2 = 1) = m.val.testBit p.val := by decide +kernel
theorem wraps_i64 (n : Int) (h0 : 0 ≤ n) (h1 : n < 2 ^ 62) : IntKind.i64.wrap n = n := by rw [IntKind.wrap_i64]; omega
theorem bit_and {a b : Nat} (ha : a < 256) (hb : b < 256) : Go.bits .and .i64 (a : Int) (b : Int) = ((a &&& b : Nat) : Int) := (bits_nat .i64 62 (by decide) wraps_i64 a b (by omega) (by omega)).1
theorem bit_or {a b : Nat} (ha : a < 256) (hb : b < 256) : Go.bits .or .i64 (a : Int) (b : Int) = ((a ||| b : Nat) : Int) := (bits_nat .i64 62 (by decide) wraps_i64 a b (by omega) (by omega)).2
set_option maxRecDepth 100000 in
theorem bit_andNot_ : ∀ a b : Fin 256, Go.bits .andNot .i64 (a.val : Int) (b.val : Int) = ((a.val &&& (255 ^^^ b.val) : Nat) : Int) := by decide +kernel
/-- The least person of a set, as a set. -/
def low (m : Nat) : Nat := (Go.bits .and .i64 (m : Int) (wrap64 (-(m : Int)))).toNat
theorem low_ : ∀ m : Fin 256, m.val = 0 ∨ (Go.bits .and .i64 (m.val : Int) (wrap64 (-(m.val : Int))) = (low m.val : Int) ∧ ∃ p : Fin 8, low m.val = 2 ^ p.val ∧ m.val.testBit p.val = true ∧ ∀ q : Fin 8, q.val < p.val → m.val.testBit q.val = false) := by decide +kernel
/- The members of a set: the list, its adults and children; what a bundle of them costs. No condition but sets below 256. -/
/-- The members among the first k, in order. -/
def memTo (m : Nat) : Nat → List Int
  | 0 => []
  | k + 1 => if m.testBit k = true then memTo m k ++ [(k : Int)] else memTo m k
theorem memTo_len (m : Nat) : ∀ k, (memTo m k).length = cn k (fun p => m.testBit p)
  | 0 => rfl
  | k + 1 => by
    rw [memTo, cn_succ, ← memTo_len m k]
    split
    · rw [List.length_append]; rfl
    · rfl
theorem members_ev {m : Nat} (hm : m < 256) : Ev (fun k => group_members.f k (m : Int)) (memTo m 8) := by
  have h : ∀ (d j : Nat), 8 - j = d → j ≤ 8 → Ev (fun k => group_members.l0 k (m : Int) (memTo m j) (j : Int)) (memTo m 8) := by
    intro d
    induction d with
    | zero =>
      intro j hd hj
      obtain rfl : j = 8 := by omega
      exact Ev.step (fun k => by rw [group_members.l0, if_neg (by decide)]) (Ev.now _)
    | succ d ih =>
      intro j hd hj
      have ih := ih (j + 1) (by omega) (by omega)
      have hb := bit_test ⟨m, hm⟩ ⟨j, by omega⟩
      have hl : (memTo m j).length < 17592186044416 := by rw [memTo_len]; have := cn_le j (fun p => m.testBit p); omega
      have hn : wrap64 ((j : Int) + 1) = ((j + 1 : Nat) : Int) := wS j 8 (by decide) (by omega)
      refine Ev.step (fun k => by rw [group_members.l0, if_pos (by omega), if_pos (by omega), hn]) ?_
      rw [memTo] at ih
      by_cases hc : m.testBit j = true
      · rw [if_pos hc] at ih
        exact Ev.yes (of_decide_eq_true (by rw [← hc]; exact hb)) (Ev.yes hl ih)
      · rw [if_neg hc] at ih
        exact Ev.no (fun q => hc (by rw [← hb]; exact decide_eq_true q)) ih
  exact h 8 0 (by omega) (by omega)
theorem persons_ev {m : Nat} (hm : m < 256) : Ev (fun k => skiarearef24_persons.f k (m : Int)) (memTo m 8) := by
  have h : ∀ (d j : Nat), 8 - j = d → j ≤ 8 → Ev (fun k => skiarearef24_persons.l0 k (m : Int) (memTo m j) (j : Int)) (memTo m 8) := by
    intro d
    induction d with
    | zero =>
      intro j hd hj
      obtain rfl : j = 8 := by omega
      exact Ev.step (fun k => by rw [skiarearef24_persons.l0, if_neg (by decide)]) (Ev.now _)
    | succ d ih =>
      intro j hd hj
      have ih := ih (j + 1) (by omega) (by omega)
      have hb := bit_test2 ⟨m, hm⟩ ⟨j, by omega⟩
      have hl : (memTo m j).length < 17592186044416 := by rw [memTo_len]; have := cn_le j (fun p => m.testBit p); omega
      have hn : wrap64 ((j : Int) + 1) = ((j + 1 : Nat) : Int) := wS j 8 (by decide) (by omega)
      have h0 : 0 ≤ IntKind.u64.wrap (j : Int) := by
        have : ∀ p : Fin 8, 0 ≤ IntKind.u64.wrap (p.val : Int) := by decide
        exact this ⟨j, by omega⟩
      refine Ev.step (fun k => by rw [skiarearef24_persons.l0, if_pos (by omega), if_pos h0, hn]) ?_
      rw [memTo] at ih
      by_cases hc : m.testBit j = true
      · rw [if_pos hc] at ih
        exact Ev.yes (of_decide_eq_true (by rw [← hc]; exact hb)) (Ev.yes hl ih)
      · rw [if_neg hc] at ih
        exact Ev.no (fun q => hc (by rw [← hb]; exact decide_eq_true q)) ih
  exact h 8 0 (by omega) (by omega)
theorem rd_app_lt {xs : List Int} {x : Int} {j : Nat} (h : j < xs.length) : rd (xs ++ [x]) j = rd xs j := by simp [rd, List.getElem?_append_left h]
theorem rd_app_at (xs : List Int) (x : Int) : rd (xs ++ [x]) xs.length = x := by simp [rd]
theorem adTo_app (ages : List Int) (xs : List Int) (x : Int) : ∀ j, j ≤ xs.length → adTo ages (xs ++ [x]) j = adTo ages xs j
  | 0, _ => rfl
  | j + 1, h => by rw [adTo, adTo, rd_app_lt (by omega), adTo_app ages xs x j (by omega)]
theorem memTo_ad (ages : List Int) (m : Nat) : ∀ k, adTo ages (memTo m k) (memTo m k).length = cn k (fun p => m.testBit p && adult ages p)
  | 0 => rfl
  | k + 1 => by
    rw [memTo, cn_succ]
    by_cases h : m.testBit k = true
    · rw [if_pos h, List.length_append, List.length_singleton, adTo, rd_app_at, adTo_app _ _ _ _ (Nat.le_refl _), memTo_ad ages m k, h, Bool.true_and]
      unfold adult
      by_cases h2 : rd ages k ≥ 16
      · rw [if_pos h2, decide_eq_true h2, if_pos rfl]; rfl
      · rw [if_neg h2, decide_eq_false h2, if_neg (by decide)]; rfl
    · rw [if_neg h, Bool.eq_false_iff.2 h, Bool.false_and, if_neg (by decide)]
      exact memTo_ad ages m k
theorem cn_split (n : Nat) (f g : Nat → Bool) : cn n (fun p => f p && g p) + cn n (fun p => f p && !g p) = cn n f := by
  induction n with
  | zero => rfl
  | succ n ih =>
    rw [cn_succ, cn_succ, cn_succ, ← ih]
    cases f n <;> cases g n <;> simp <;> omega
/-- Members stand in order, and in range. -/
theorem memTo_last (m : Nat) : ∀ k (j : Nat), j < (memTo m k).length → 0 ≤ rd (memTo m k) j ∧ rd (memTo m k) j < k
  | 0, j, h => by simp [memTo] at h
  | k + 1, j, h => by
    rw [memTo] at h ⊢
    by_cases hb : m.testBit k = true
    · rw [if_pos hb] at h ⊢
      rw [List.length_append, List.length_singleton] at h
      by_cases e : j = (memTo m k).length
      · subst e; rw [rd_app_at]; omega
      · rw [rd_app_lt (by omega)]
        have := memTo_last m k j (by omega)
        omega
    · rw [if_neg hb] at h ⊢
      have := memTo_last m k j h
      omega
theorem okTo_app {n : Nat} {xs : List Int} {x : Int} : ∀ j, j ≤ xs.length → okTo n (xs ++ [x]) j = okTo n xs j
  | 0, _ => rfl
  | j + 1, h => by
    rw [okTo, okTo, okTo_app j (by omega)]
    unfold okAt
    rw [rd_app_lt (by omega)]
    by_cases e : j = 0
    · subst e; rfl
    · have : ((j : Int) - 1) = ((j - 1 : Nat) : Int) := by omega
      rw [this, rd_app_lt (by omega)]
theorem memTo_ok {m n : Nat} (hn : ∀ p, m.testBit p = true → p < n) : ∀ k, okTo n (memTo m k) (memTo m k).length = true
  | 0 => rfl
  | k + 1 => by
    rw [memTo]
    by_cases hb : m.testBit k = true
    · rw [if_pos hb, List.length_append, List.length_singleton, okTo, okTo_app _ (Nat.le_refl _), memTo_ok hn k, Bool.true_and]
      unfold okAt
      rw [rd_app_at]
      have hk := hn k hb
      rw [decide_eq_true (show (0 : Int) ≤ k ∧ (k : Int) < n by omega), Bool.true_and]
      by_cases e : (memTo m k).length = 0
      · rw [decide_eq_true e]; rfl
      · have h1 := memTo_last m k ((memTo m k).length - 1) (by omega)
        have : (((memTo m k).length : Int) - 1) = (((memTo m k).length - 1 : Nat) : Int) := by omega
        rw [this, rd_app_lt (by omega), decide_eq_true h1.2, Bool.or_true]
    · rw [if_neg hb]; exact memTo_ok hn k
/- A bundle of the members of a set: its price, by the theory of divisions. Condition: a right group. -/
/-- The set m as a set of persons. -/
def bt (m : Nat) : Nat → Bool := fun p => m.testBit p
theorem cn_beyond {f : Nat → Bool} {n : Nat} (h : ∀ p, n ≤ p → f p = false) : ∀ d, cn (n + d) f = cn n f
  | 0 => rfl
  | d + 1 => by rw [← Nat.add_assoc, cn_succ, cn_beyond h d, h (n + d) (by omega)]; rfl
theorem bt_lt {m n : Nat} (h : m < 2 ^ n) : ∀ p, n ≤ p → m.testBit p = false := fun p hp => Nat.testBit_lt_two_pow (Nat.lt_of_lt_of_le h (Nat.pow_le_pow_right (by decide) hp))
theorem bt_in {m n : Nat} (h : m < 2 ^ n) : ∀ p, m.testBit p = true → p < n := fun p hp => Classical.byContradiction fun hn => by
  rw [bt_lt h p (by omega)] at hp
  cases hp
theorem cn8 {f : Nat → Bool} {n : Nat} (hn : n ≤ 8) (h : ∀ p, n ≤ p → f p = false) : cn 8 f = cn n f := by
  have := cn_beyond h (8 - n)
  rw [show n + (8 - n) = 8 by omega] at this
  exact this
theorem holds_cn {ages : List Int} {m : Nat} (hn : ages.length ≤ 8) (hm : m < 2 ^ ages.length) (o : S45) :
    holdsV ages o (memTo m 8) = true ↔ ((cn ages.length (fun p => bt m p && adult ages p) : Int) ≤ o.f1 ∧ (cn ages.length (fun p => bt m p && !adult ages p) : Int) ≤ o.f2) := by
  have h1 := memTo_ad ages m 8
  have h2 := memTo_len m 8
  have h3 := cn_split 8 (fun p => m.testBit p) (adult ages)
  have h4 : cn 8 (fun p => m.testBit p && adult ages p) = cn ages.length (fun p => bt m p && adult ages p) := cn8 hn fun p hp => by rw [bt_lt hm p hp]; rfl
  have h5 : cn 8 (fun p => m.testBit p && !adult ages p) = cn ages.length (fun p => bt m p && !adult ages p) := cn8 hn fun p hp => by rw [bt_lt hm p hp]; rfl
  unfold holdsV
  rw [Bool.and_eq_true, decide_eq_true_eq, decide_eq_true_eq, h1]
  rw [← h4, ← h5]
  omega
theorem cn_pos {m n : Nat} (hm : m < 2 ^ n) (h0 : m ≠ 0) : cn n (bt m) ≠ 0 := fun h => h0 (Nat.eq_of_testBit_eq fun p => by
  rw [Nat.zero_testBit]
  by_cases hp : p < n
  · exact cn_zero.1 h p hp
  · exact bt_lt hm p (by omega))
/-- A set and an offer that is enough for it are a bundle. -/
theorem mask_pr {ages prices : List Int} {l : List S45} (ok : OKG ages prices l) {m : Nat} (hm : m < 2 ^ ages.length) (h0 : m ≠ 0) {o : S45} (ho : o ∈ l) (hh : holdsV ages o (memTo m 8) = true) : Pr ages prices l ⟨o.f0, bt m⟩ o.f3 := by
  obtain ⟨h1, h2⟩ := (holds_cn ok.len hm o).1 hh
  exact .off _ o ho rfl (by have := (ok.off o ho).1; show o.f0 ≠ 0; omega) (cn_pos hm h0) h1 h2
/-- The sets of a bundle, as a number. -/
def toM (n : Nat) (f : Nat → Bool) : Nat := match n with
  | 0 => 0
  | n + 1 => toM n f + if f n = true then 2 ^ n else 0
theorem toM_lt : ∀ (n : Nat) (f : Nat → Bool), toM n f < 2 ^ n
  | 0, f => Nat.one_pos
  | n + 1, f => by
    have := toM_lt n f
    rw [toM, Nat.pow_succ]
    split <;> omega
theorem toM_bit : ∀ (n : Nat) (f : Nat → Bool) (p : Nat), p < n → (toM n f).testBit p = f p
  | 0, f, p, h => by omega
  | n + 1, f, p, h => by
    have hlt := toM_lt n f
    rw [toM]
    by_cases e : p = n
    · subst e
      by_cases hf : f p = true
      · rw [if_pos hf, Nat.add_comm, Nat.testBit_two_pow_add_eq, Nat.testBit_lt_two_pow hlt, hf]; rfl
      · rw [if_neg hf, Nat.add_zero, Nat.testBit_lt_two_pow hlt, Bool.eq_false_iff.2 hf]
    · have ih := toM_bit n f p (by omega)
      by_cases hf : f n = true
      · rw [if_pos hf, Nat.add_comm, Nat.testBit_two_pow_add_gt (by omega), ih]
      · rw [if_neg hf, Nat.add_zero, ih]
/- Sets as numbers: union, difference, the submasks in falling order. No condition but sets below 256. -/
/-- The difference of sets. -/
def dif (a b : Nat) : Nat := a &&& (255 ^^^ b)
theorem bit_andNot {a b : Nat} (ha : a < 256) (hb : b < 256) : Go.bits .andNot .i64 (a : Int) (b : Int) = (dif a b : Int) := bit_andNot_ ⟨a, ha⟩ ⟨b, hb⟩
theorem t255 : ∀ p : Nat, (255 : Nat).testBit p = decide (p < 8) := fun p => by
  have := Nat.testBit_two_pow_sub_one 8 p
  exact this
theorem dif_bt {a b : Nat} (ha : a < 256) (p : Nat) : bt (dif a b) p = (bt a p && !bt b p) := by
  unfold bt dif
  rw [Nat.testBit_and, Nat.testBit_xor, t255]
  by_cases h : p < 8
  · rw [decide_eq_true h, Bool.true_xor]
  · rw [Nat.testBit_lt_two_pow (i := p) (x := a) (Nat.lt_of_lt_of_le ha (Nat.pow_le_pow_right (n := 2) (by decide) (show 8 ≤ p by omega)))]
    rfl
theorem or_bt (a b p : Nat) : bt (a ||| b) p = (bt a p || bt b p) := Nat.testBit_or ..
theorem dif_le (a b : Nat) : dif a b ≤ a := Nat.and_le_left
theorem dif_lt {a b : Nat} (ha : a < 256) {p : Nat} (h1 : bt a p = true) (h2 : bt b p = true) : dif a b < a := by
  refine Nat.lt_of_le_of_ne (dif_le a b) fun e => ?_
  have := dif_bt (b := b) ha p
  rw [e, h1, h2] at this
  cases this
def sub (a b : Nat) : Prop := ∀ p, bt a p = true → bt b p = true
theorem sub_div {a b : Nat} (h : sub a b) : sub (a / 2) (b / 2) := fun p hp => by
  unfold bt at hp ⊢
  rw [Nat.testBit_div_two] at hp ⊢
  exact h _ hp
theorem sub_mod {a b : Nat} (h : sub a b) : a % 2 ≤ b % 2 := by
  have := h 0
  unfold bt at this
  rw [Nat.testBit_zero, Nat.testBit_zero, decide_eq_true_eq, decide_eq_true_eq] at this
  omega
theorem and_div (a b : Nat) : (a &&& b) / 2 = (a / 2) &&& (b / 2) := Nat.and_div_two
theorem and_mod (a b : Nat) : (a &&& b) % 2 = if a % 2 = 1 ∧ b % 2 = 1 then 1 else 0 := by
  have h : (a &&& b).testBit 0 = (a.testBit 0 && b.testBit 0) := Nat.testBit_and ..
  rw [Nat.testBit_zero, Nat.testBit_zero, Nat.testBit_zero, ← Bool.decide_and, decide_eq_decide] at h
  split <;> omega
theorem sub_and {a b : Nat} (h : sub a b) : a &&& b = a := Nat.eq_of_testBit_eq fun p => by
  rw [Nat.testBit_and]
  have := h p
  unfold bt at this
  by_cases e : a.testBit p = true
  · rw [e, this e]; rfl
  · rw [Bool.eq_false_iff.2 e]; rfl
/-- The next submask in falling order passes over none. -/
theorem sub_next : ∀ (n o t r : Nat), o ≤ n → sub o r → sub t r → t < o → t ≤ (o - 1) &&& r
  | 0, o, t, r, hn, _, _, hlt => by omega
  | n + 1, o, t, r, hn, ho, ht, hlt => by
    have e1 := and_div (o - 1) r
    have e2 := and_mod (o - 1) r
    have m1 := sub_mod ho
    have m2 := sub_mod ht
    by_cases hb : o % 2 = 1
    · have e3 : (o - 1) / 2 = o / 2 := by omega
      rw [e3, sub_and (sub_div ho)] at e1
      omega
    · have e3 : (o - 1) / 2 = o / 2 - 1 := by omega
      rw [e3] at e1
      have ih := sub_next n (o / 2) (t / 2) (r / 2) (by omega) (sub_div ho) (sub_div ht) (by omega)
      have e4 : (o - 1) % 2 = 1 := by omega
      rw [e4] at e2
      by_cases hr : r % 2 = 1
      · rw [if_pos ⟨rfl, hr⟩] at e2; omega
      · rw [if_neg (fun q => hr q.2)] at e2; omega
theorem sub_and_right (a r : Nat) : sub (a &&& r) r := fun p hp => by
  unfold bt at hp ⊢
  rw [Nat.testBit_and, Bool.and_eq_true] at hp
  exact hp.2
/-- Nobody left: nothing to pay. -/
theorem Dv.empty {ages prices : List Int} {l : List S45} {S : Nat → Bool} (h0 : ∀ p, p < ages.length → S p = false) {c : Int} {k : Nat} (h : Dv ages prices l S c k) : c = 0 ∧ k = 0 := by
  cases h with
  | nil => exact ⟨rfl, rfl⟩
  | cons _ b c d k hP hm _ =>
    obtain ⟨p, hp, hb⟩ := hP.pos
    have := hm p hp hb
    rw [h0 p hp] at this
    cases this
theorem best_zero {ages prices : List Int} {l : List S45} : Best ages prices l (bt 0) 0 0 := by
  have h0 : ∀ p, p < ages.length → bt 0 p = false := fun p _ => Nat.zero_testBit p
  exact ⟨.nil _ h0, fun c k h => by have := h.empty h0; omega⟩
/- One step of the table of best divisions: a further choice for a set is looked at. No condition but sets below 256 and small numbers. -/
theorem rd60_at {xs : List S60} {i : Nat} (x : S60) (hi : i < xs.length) : rd_T60 (xs.set i x) i = x := by simp [rd_T60, List.getElem?_set, hi]
theorem rd60_ne {xs : List S60} {i j : Nat} (x : S60) (h : j ≠ i) : rd_T60 (xs.set i x) j = rd_T60 xs j := by simp [rd_T60, List.getElem?_set, Ne.symm h]
/-- A choice for the first bundle of the set S: its offer, its persons (with p0 among them), its price. -/
structure Ch (ages prices : List Int) (l : List S45) (S p0 : Nat) (off : Int) (P : Nat) (a : Int) : Prop where
  small : P < 256
  sub : sub P S
  first : bt P p0 = true
  pr : Pr ages prices l ⟨off, bt P⟩ a
  pos : 0 ≤ a ∧ a ≤ 100000000
/-- The entry of S after some choices were tried: it is one of the choices, and none of those tried is better. T is the table before S. -/
structure Cur (ages prices : List Int) (l : List S45) (S p0 : Nat) (T T' : List S60) (tried : Int → Nat → Int → Prop) : Prop where
  len : T'.length = T.length
  other : ∀ R : Nat, R ≠ S → rd_T60 T' R = rd_T60 T R
  is : ∃ off P a, Ch ages prices l S p0 off P a ∧ rd_T60 T' S = ⟨off, P, a + (rd_T60 T (dif S P : Nat)).f2, 1 + (rd_T60 T (dif S P : Nat)).f3⟩
  le : ∀ off P a, tried off P a → (rd_T60 T' S).f2 < a + (rd_T60 T (dif S P : Nat)).f2 ∨ ((rd_T60 T' S).f2 = a + (rd_T60 T (dif S P : Nat)).f2 ∧ (rd_T60 T' S).f3 ≤ 1 + (rd_T60 T (dif S P : Nat)).f3)
def Small (T : List S60) : Prop := ∀ R : Nat, R < T.length → 0 ≤ (rd_T60 T R).f2 ∧ (rd_T60 T R).f2 ≤ 1000000000 ∧ 0 ≤ (rd_T60 T R).f3 ∧ (rd_T60 T R).f3 ≤ 1000
theorem ext_eq {ages prices : List Int} {l : List S45} {S p0 : Nat} {T T' : List S60} (hS : S < T.length) (h256 : S < 256) (hp : bt S p0 = true) (hsm : Small T) (hlen : T'.length = T.length) (hoth : ∀ R : Nat, R ≠ S → rd_T60 T' R = rd_T60 T R) {off : Int} {P : Nat} {a : Int} (h : Ch ages prices l S p0 off P a) :
    extIn T' (S : Int) (P : Int) ∧ extT T' (S : Int) off (P : Int) a = ⟨off, P, a + (rd_T60 T (dif S P : Nat)).f2, 1 + (rd_T60 T (dif S P : Nat)).f3⟩ := by
  have hd : dif S P < S := dif_lt h256 hp h.first
  have e := bit_andNot h256 h.small
  have hne := hoth (dif S P) (by omega)
  have hb := hsm (dif S P) (by omega)
  have ha := h.pos
  constructor
  · unfold extIn
    rw [e]
    omega
  · unfold extT
    rw [e, hne, wrap_id (by omega), wrap_id (by omega)]
/-- The first choice. -/
theorem Cur.first {ages prices : List Int} {l : List S45} {S p0 : Nat} {T : List S60} (hS : S < T.length) (h256 : S < 256) (hp : bt S p0 = true) (hsm : Small T) {off : Int} {P : Nat} {a : Int} (h : Ch ages prices l S p0 off P a) :
    extIn T (S : Int) (P : Int) ∧ Cur ages prices l S p0 T (extV T (S : Int) false off (P : Int) a) (fun o Q b => o = off ∧ Q = P ∧ b = a) := by
  obtain ⟨h1, h2⟩ := ext_eq hS h256 hp hsm rfl (fun _ _ => rfl) h
  have hv : extV T (S : Int) false off (P : Int) a = T.set S ⟨off, P, a + (rd_T60 T (dif S P : Nat)).f2, 1 + (rd_T60 T (dif S P : Nat)).f3⟩ := by
    unfold extV
    rw [if_pos (by unfold extB; rfl), h2, Int.toNat_natCast]
  refine ⟨h1, ?_⟩
  rw [hv]
  refine ⟨List.length_set .., fun R hR => rd60_ne _ hR, ⟨off, P, a, h, rd60_at _ hS⟩, fun o Q b hq => ?_⟩
  obtain ⟨rfl, rfl, rfl⟩ := hq
  rw [rd60_at _ hS]
  exact .inr ⟨rfl, Int.le_refl _⟩
/-- A further choice. -/
theorem Cur.ext {ages prices : List Int} {l : List S45} {S p0 : Nat} {T T' : List S60} {tried : Int → Nat → Int → Prop} (c : Cur ages prices l S p0 T T' tried) (hS : S < T.length) (h256 : S < 256) (hp : bt S p0 = true) (hsm : Small T) {off : Int} {P : Nat} {a : Int} (h : Ch ages prices l S p0 off P a) :
    extIn T' (S : Int) (P : Int) ∧ Cur ages prices l S p0 T (extV T' (S : Int) true off (P : Int) a) (fun o Q b => tried o Q b ∨ (o = off ∧ Q = P ∧ b = a)) := by
  obtain ⟨h1, h2⟩ := ext_eq hS h256 hp hsm c.len c.other h
  refine ⟨h1, ?_⟩
  have hS' : S < T'.length := by rw [c.len]; exact hS
  unfold extV
  by_cases hb : extB T' (S : Int) true off (P : Int) a = true
  · rw [if_pos hb, h2, Int.toNat_natCast]
    have hlt : a + (rd_T60 T (dif S P : Nat)).f2 < (rd_T60 T' S).f2 ∨ (a + (rd_T60 T (dif S P : Nat)).f2 = (rd_T60 T' S).f2 ∧ 1 + (rd_T60 T (dif S P : Nat)).f3 < (rd_T60 T' S).f3) := by
      unfold extB at hb
      rw [h2] at hb
      simp only [Bool.not_true, Bool.false_or, Bool.or_eq_true, Bool.and_eq_true, decide_eq_true_eq] at hb
      exact hb
    refine ⟨by rw [List.length_set]; exact c.len, fun R hR => by rw [rd60_ne _ hR]; exact c.other R hR, ⟨off, P, a, h, rd60_at _ hS'⟩, fun o Q b hq => ?_⟩
    rw [rd60_at _ hS']
    rcases hq with hq | ⟨rfl, rfl, rfl⟩
    · have := c.le o Q b hq
      show a + _ < _ ∨ (a + _ = _ ∧ 1 + _ ≤ _)
      omega
    · exact .inr ⟨rfl, Int.le_refl _⟩
  · rw [if_neg hb]
    have hge : ¬ (a + (rd_T60 T (dif S P : Nat)).f2 < (rd_T60 T' S).f2 ∨ (a + (rd_T60 T (dif S P : Nat)).f2 = (rd_T60 T' S).f2 ∧ 1 + (rd_T60 T (dif S P : Nat)).f3 < (rd_T60 T' S).f3)) := by
      unfold extB at hb
      rw [h2] at hb
      simp only [Bool.not_true, Bool.false_or, Bool.or_eq_true, Bool.and_eq_true, decide_eq_true_eq] at hb
      exact hb
    refine ⟨c.len, c.other, c.is, fun o Q b hq => ?_⟩
    rcases hq with hq | ⟨rfl, rfl, rfl⟩
    · exact c.le o Q b hq
    · omega
/- The loops of Best over the offers and over the sets of further persons. Condition: a right group. -/
/-- The first j offers were tried for the persons P. -/
def offs (ages : List Int) (l : List S45) (P : Nat) (j : Nat) : Int → Nat → Int → Prop := fun o Q b => Q = P ∧ ∃ i : Nat, i < j ∧ holdsV ages (rd_T45 l i) (memTo P 8) = true ∧ o = (rd_T45 l i).f0 ∧ b = (rd_T45 l i).f3
theorem Cur.mono {ages prices : List Int} {l : List S45} {S p0 : Nat} {T T' : List S60} {t t' : Int → Nat → Int → Prop} (c : Cur ages prices l S p0 T T' t) (h : ∀ o Q b, t' o Q b → t o Q b) : Cur ages prices l S p0 T T' t' := ⟨c.len, c.other, c.is, fun o Q b hq => c.le o Q b (h o Q b hq)⟩
theorem sub_lt {a b n : Nat} (h : sub a b) (hb : b < 2 ^ n) : a < 2 ^ n := by
  refine Nat.lt_of_le_of_lt ?_ hb
  rw [← sub_and h]
  exact Nat.and_le_right
theorem l2_ev {ages prices : List Int} {l : List S45} (ok : OKG ages prices l) {S p0 fst oth : Nat} {T : List S60} (hS : S < T.length) (hSn : S < 2 ^ ages.length) (h256 : S < 256) (hp : bt S p0 = true) (hsm : Small T) (hf : fst < 256) (ho : oth < 256) (hP : sub (fst ||| oth) S) (hP0 : bt (fst ||| oth) p0 = true)
    {G : List S43 × Int × Int → Prop} {tried : Int → Nat → Int → Prop}
    (cont : ∀ T', Cur ages prices l S p0 T T' (fun o Q b => tried o Q b ∨ offs ages l (fst ||| oth) l.length o Q b) → ∃ r, Ev (fun k => if (oth : Int) = 0 then group_Best.l0 k ages prices l (wrap64 ((S : Int) + 1)) T' else group_Best.l1 k ages prices l S fst (Go.bits .and .i64 (wrap64 ((oth : Int) - 1)) (Go.bits .andNot .i64 S fst)) T') r ∧ G r) :
    ∀ (d j : Nat) (T' : List S60), l.length - j = d → j ≤ l.length → Cur ages prices l S p0 T T' (fun o Q b => tried o Q b ∨ offs ages l (fst ||| oth) j o Q b) → ∃ r, Ev (fun k => group_Best.l2 k ages prices l S fst oth (memTo (fst ||| oth) 8) T' l l.length j) r ∧ G r
  | 0, j, T', hd, hj, hc => by
    obtain rfl : j = l.length := by omega
    obtain ⟨r, hr, hg⟩ := cont T' hc
    exact ⟨r, Ev.step (fun k => by rw [group_Best.l2, if_neg (Int.lt_irrefl _)]) hr, hg⟩
  | d + 1, j, T', hd, hj, hc => by
    have hlt : j < l.length := by omega
    have a1 : l.length - (j + 1) = d := by omega
    have a2 : j + 1 ≤ l.length := by omega
    have hj0 : (0 : Int) ≤ j := Int.natCast_nonneg j
    have hj1 : (j : Int) < l.length := Int.ofNat_lt.2 hlt
    have hPn : fst ||| oth < 2 ^ ages.length := sub_lt hP hSn
    have hP8 : fst ||| oth < 256 := Nat.or_lt_two_pow (n := 8) hf ho
    have hne : fst ||| oth ≠ 0 := fun e => by rw [e] at hP0; unfold bt at hP0; rw [Nat.zero_testBit] at hP0; cases hP0
    have hmem : rd_T45 l j ∈ l := by rw [rd45_get hlt]; exact List.getElem_mem hlt
    have hin := ok_all (memTo_ok (n := ages.length) (bt_in hPn) 8)
    have hlen : (memTo (fst ||| oth) 8).length ≤ 9223372036854775807 := by rw [memTo_len]; have := cn_le 8 (fun p => (fst ||| oth).testBit p); omega
    have hH := holds_ev ages (rd_T45 l j) (memTo (fst ||| oth) 8) hlen hin
    have hor := bit_or hf ho
    have HN := Aside0.mk (wS j l.length (by have := ok.olen; omega) hlt)
    by_cases hv : holdsV ages (rd_T45 l j) (memTo (fst ||| oth) 8) = true
    · have ch : Ch ages prices l S p0 (rd_T45 l j).f0 (fst ||| oth) (rd_T45 l j).f3 := ⟨hP8, hP, hP0, mask_pr ok hPn hne hmem hv, by have := ok.off _ hmem; omega⟩
      obtain ⟨hIn, hC⟩ := hc.ext hS h256 hp hsm ch
      obtain ⟨r, hr, hg⟩ := l2_ev ok hS hSn h256 hp hsm hf ho hP hP0 cont d (j + 1) _ a1 a2 (hC.mono (fun o Q b hq => by
        rcases hq with hq | ⟨h1, i, hi, h2⟩
        · exact .inl (.inl hq)
        · by_cases e : i = j
          · subst e; exact .inr ⟨h2.2.1, h1, h2.2.2⟩
          · exact .inl (.inr ⟨h1, i, by omega, h2⟩)))
      rw [hv] at hH
      exact ⟨r, Ev.step (fun k => by rw [group_Best.l2, if_pos hj1, if_pos hj0, if_pos hj1, hor, HN.out]) (Ev.bind hH (Ev.yes rfl (Ev.yes hIn hr))), hg⟩
    · obtain ⟨r, hr, hg⟩ := l2_ev ok hS hSn h256 hp hsm hf ho hP hP0 cont d (j + 1) T' a1 a2 (hc.mono (fun o Q b hq => by
        rcases hq with hq | ⟨h1, i, hi, h2⟩
        · exact .inl hq
        · by_cases e : i = j
          · subst e; exact absurd h2.1 hv
          · exact .inr ⟨h1, i, by omega, h2⟩))
      rw [Bool.eq_false_iff.2 hv] at hH
      exact ⟨r, Ev.step (fun k => by rw [group_Best.l2, if_pos hj1, if_pos hj0, if_pos hj1, HN.out]) (Ev.bind hH (Ev.no (c := (false : Bool) = true) (by decide) hr)), hg⟩
theorem sub_or {a b c : Nat} (h1 : sub a c) (h2 : sub b c) : sub (a ||| b) c := fun p hp => by
  rw [or_bt, Bool.or_eq_true] at hp
  exact hp.elim (h1 p) (h2 p)
/-- All sets of further persons from oth down to nobody are looked at; those above were. -/
theorem l1_ev {ages prices : List Int} {l : List S45} (ok : OKG ages prices l) {S p0 fst : Nat} {T : List S60} (hS : S < T.length) (hSn : S < 2 ^ ages.length) (h256 : S < 256) (hp : bt S p0 = true) (hsm : Small T) (hf : fst < 256) (hfS : sub fst S) (hf0 : bt fst p0 = true)
    {G : List S43 × Int × Int → Prop} {tried0 : Int → Nat → Int → Prop}
    (cont : ∀ T', Cur ages prices l S p0 T T' (fun o Q b => tried0 o Q b ∨ ∃ t, sub t (dif S fst) ∧ offs ages l (fst ||| t) l.length o Q b) → ∃ r, Ev (fun k => group_Best.l0 k ages prices l (wrap64 ((S : Int) + 1)) T') r ∧ G r) :
    ∀ (n oth : Nat) (T' : List S60), oth ≤ n → sub oth (dif S fst) → Cur ages prices l S p0 T T' (fun o Q b => tried0 o Q b ∨ ∃ t, sub t (dif S fst) ∧ oth < t ∧ offs ages l (fst ||| t) l.length o Q b) → ∃ r, Ev (fun k => group_Best.l1 k ages prices l S fst oth T') r ∧ G r := by
  have hR : sub (dif S fst) S := fun p h => by rw [dif_bt h256, Bool.and_eq_true] at h; exact h.1
  have hR8 : dif S fst < 256 := Nat.lt_of_le_of_lt (dif_le _ _) h256
  intro n
  induction n with
  | zero =>
    intro oth T' hn ho hc
    obtain rfl : oth = 0 := by omega
    have hP8 : fst ||| 0 < 256 := by rw [Nat.or_zero]; exact hf
    obtain ⟨r, hr, hg⟩ := l2_ev ok hS hSn h256 hp hsm hf (show 0 < 256 by decide) (sub_or hfS fun p h => hR p (ho p h)) (by rw [or_bt, hf0, Bool.true_or]) (G := G) (tried := fun o Q b => tried0 o Q b ∨ ∃ t, sub t (dif S fst) ∧ 0 < t ∧ offs ages l (fst ||| t) l.length o Q b) (fun T'' hc2 => by
      obtain ⟨r, hr, hg⟩ := cont T'' (hc2.mono (fun o Q b hq => by
        rcases hq with hq | ⟨t, ht, hq⟩
        · exact .inl (.inl hq)
        · by_cases e : t = 0
          · subst e; exact .inr hq
          · exact .inl (.inr ⟨t, ht, by omega, hq⟩)))
      exact ⟨r, Ev.yes rfl hr, hg⟩) l.length 0 T' (by omega) (Nat.zero_le _) (hc.mono fun o Q b hq => by
        rcases hq with hq | ⟨_, i, hi, _⟩
        · exact hq
        · omega)
    refine ⟨r, Ev.step (fun k => by rw [group_Best.l1]) ?_, hg⟩
    have hb := bit_or hf (show 0 < 256 by decide)
    rw [hb]
    exact Ev.bind (members_ev hP8) hr
  | succ n ih =>
    intro oth T' hn ho hc
    have ho8 : oth < 256 := Nat.lt_of_le_of_lt (by rw [← sub_and ho]; exact Nat.and_le_right) hR8
    have hP8 : fst ||| oth < 256 := Nat.or_lt_two_pow (n := 8) hf ho8
    obtain ⟨r, hr, hg⟩ := l2_ev ok hS hSn h256 hp hsm hf ho8 (sub_or hfS fun p h => hR p (ho p h)) (by rw [or_bt, hf0, Bool.true_or]) (G := G) (tried := fun o Q b => tried0 o Q b ∨ ∃ t, sub t (dif S fst) ∧ oth < t ∧ offs ages l (fst ||| t) l.length o Q b) (fun T'' hc2 => by
      by_cases h0 : oth = 0
      · subst h0
        obtain ⟨r, hr, hg⟩ := cont T'' (hc2.mono (fun o Q b hq => by
          rcases hq with hq | ⟨t, ht, hq⟩
          · exact .inl (.inl hq)
          · by_cases e : t = 0
            · subst e; exact .inr hq
            · exact .inl (.inr ⟨t, ht, by omega, hq⟩)))
        exact ⟨r, Ev.yes rfl hr, hg⟩
      · have hle : (oth - 1) &&& dif S fst ≤ oth - 1 := Nat.and_le_left
        obtain ⟨r, hr, hg⟩ := ih ((oth - 1) &&& dif S fst) T'' (by omega) (sub_and_right _ _) (hc2.mono (fun o Q b hq => by
          rcases hq with hq | ⟨t, ht, hgt, hq⟩
          · exact .inl (.inl hq)
          · by_cases e : t = oth
            · subst e; exact .inr hq
            · by_cases e2 : oth < t
              · exact .inl (.inr ⟨t, ht, e2, hq⟩)
              · have := sub_next oth oth t (dif S fst) (Nat.le_refl _) ho ht (by omega)
                omega))
        refine ⟨r, Ev.no (by omega) ?_, hg⟩
        have e1 : wrap64 ((oth : Int) - 1) = ((oth - 1 : Nat) : Int) := by rw [wrap_id (by omega)]; omega
        rw [e1, bit_andNot h256 hf, bit_and (by omega) hR8]
        exact hr) l.length 0 T' (by omega) (Nat.zero_le _) (hc.mono fun o Q b hq => by
        rcases hq with hq | ⟨_, i, hi, _⟩
        · exact hq
        · omega)
    refine ⟨r, Ev.step (fun k => by rw [group_Best.l1]) ?_, hg⟩
    rw [bit_or hf ho8]
    exact Ev.bind (members_ev hP8) hr
/- A division's cost and number are small; the least person of a set. Condition: a right group. -/
theorem Pr.small {ages prices : List Int} {l : List S45} (ok : OKG ages prices l) {b : Bd} {c : Int} (h : Pr ages prices l b c) : 0 ≤ c ∧ c ≤ 100000000 := by
  cases h with
  | one p h0 hp h1 => exact ok.pr p hp
  | off o h1 h2 h3 h4 h5 h6 => have := ok.off o h1; omega
theorem cn_drop {n : Nat} {S T U : Nat → Bool} (hU : ∀ q, q < n → U q = (S q && !T q)) (hT : ∀ q, q < n → T q = true → S q = true) : cn n S = cn n U + cn n T := by
  induction n with
  | zero => rfl
  | succ n ih =>
    have h1 := ih (fun q hq => hU q (by omega)) (fun q hq => hT q (by omega))
    have h2 := hU n (by omega)
    have h3 := hT n (by omega)
    rw [cn_succ, cn_succ, cn_succ, h1, h2]
    cases hs : S n <;> cases ht : T n <;> simp_all <;> omega
theorem Dv.small {ages prices : List Int} {l : List S45} (ok : OKG ages prices l) {S : Nat → Bool} {c : Int} {k : Nat} (h : Dv ages prices l S c k) : 0 ≤ c ∧ c ≤ 100000000 * k ∧ k ≤ cn ages.length S := by
  induction h with
  | nil S h0 => exact ⟨Int.le_refl _, Int.le_refl _, Nat.zero_le _⟩
  | cons S b c d k hP hm _ ih =>
    have h1 := hP.small ok
    have h2 := cn_drop (n := ages.length) (S := S) (T := b.mem) (U := without S b.mem) (fun _ _ => rfl) hm
    have h3 : cn ages.length b.mem ≠ 0 := fun e => by
      obtain ⟨p, hp, hb⟩ := hP.pos
      rw [cn_zero.1 e p hp] at hb
      cases hb
    omega
theorem low_spec {m : Nat} (h0 : m ≠ 0) (hm : m < 256) : Go.bits .and .i64 (m : Int) (wrap64 (-(m : Int))) = (low m : Int) ∧ ∃ p : Nat, p < 8 ∧ low m = 2 ^ p ∧ bt m p = true ∧ ∀ q, q < p → bt m q = false := by
  rcases low_ ⟨m, hm⟩ with h | ⟨h1, p, h2, h3, h4⟩
  · exact absurd h h0
  · exact ⟨h1, p.val, p.isLt, h2, h3, fun q hq => h4 ⟨q, by have := p.isLt; omega⟩ hq⟩
theorem memTo_pow_ : ∀ p : Fin 8, memTo (2 ^ p.val) 8 = [(p.val : Int)] := by decide +kernel
theorem memTo_pow {p : Nat} (hp : p < 8) : memTo (2 ^ p) 8 = [(p : Int)] := memTo_pow_ ⟨p, hp⟩
theorem bt_pow (p q : Nat) : bt (2 ^ p) q = decide (p = q) := Nat.testBit_two_pow
/-- One person alone is a bundle. -/
theorem single_pr {ages prices : List Int} {l : List S45} {p : Nat} (hp : p < ages.length) : Pr ages prices l ⟨0, bt (2 ^ p)⟩ (rd prices p) :=
  .one _ p rfl hp fun q _ => by show bt (2 ^ p) q = true ↔ _; rw [bt_pow, decide_eq_true_eq]; exact ⟨fun h => h.symm, fun h => h.symm⟩
/- When all choices were tried, the entry of a set is its best division. Condition: a right group. -/
theorem Best.congr {ages prices : List Int} {l : List S45} {S T : Nat → Bool} {c : Int} {k : Nat} (h : Best ages prices l S c k) (hS : ∀ p, p < ages.length → S p = T p) : Best ages prices l T c k :=
  ⟨h.1.congr hS, fun c' k' h' => h.2 c' k' (h'.congr fun p hp => (hS p hp).symm)⟩
theorem set_best {ages prices : List Int} {l : List S45} (ok : OKG ages prices l) {S p0 : Nat} {T T' : List S60} (hSn : S < 2 ^ ages.length) (h256 : S < 256) (hp : bt S p0 = true)
    (hB : ∀ R, R < S → ∃ k : Nat, (rd_T60 T R).f3 = k ∧ Best ages prices l (bt R) (rd_T60 T R).f2 k)
    (c : Cur ages prices l S p0 T T' (fun o Q b => (o = 0 ∧ Q = 2 ^ p0 ∧ b = rd prices p0) ∨ ∃ t, sub t (dif S (2 ^ p0)) ∧ offs ages l (2 ^ p0 ||| t) l.length o Q b)) :
    ∃ k : Nat, (rd_T60 T' S).f3 = k ∧ Best ages prices l (bt S) (rd_T60 T' S).f2 k := by
  have hp0 : p0 < ages.length := bt_in hSn p0 hp
  obtain ⟨off, P, a, ch, he⟩ := c.is
  obtain ⟨k, hk, hBk⟩ := hB (dif S P) (dif_lt h256 hp ch.first)
  have hle := c.le
  rw [he] at hle ⊢
  refine ⟨k + 1, by show 1 + _ = _; rw [hk]; omega, ?_⟩
  show Best ages prices l (bt S) (a + (rd_T60 T (dif S P : Nat)).f2) (k + 1)
  have hdB : ∀ Q, bt Q p0 = true → ∃ j : Nat, (rd_T60 T (dif S Q : Nat)).f3 = j ∧ Best ages prices l (bt (dif S Q)) (rd_T60 T (dif S Q : Nat)).f2 j := fun Q hQ => hB _ (dif_lt h256 hp hQ)
  have hw : ∀ (m : Nat → Bool) (q : Nat), q < ages.length → without (bt S) m q = bt (dif S (toM ages.length m)) q := fun m q hq => by
    rw [dif_bt h256]
    unfold without
    rw [show bt (toM ages.length m) q = m q from toM_bit _ _ q hq]
  refine Best.step hp0 hp (.cons _ ⟨off, bt P⟩ a _ k ch.pr (fun q _ h => ch.sub q h) (hBk.1.congr fun q hq => dif_bt h256 q)) ?_ ?_
  · intro b a' d j hP hb hm hBd
    obtain ⟨j', hj', hBj⟩ := hdB (toM ages.length b.mem) (by show bt (toM ages.length b.mem) p0 = true; rw [show bt (toM ages.length b.mem) p0 = b.mem p0 from toM_bit _ _ p0 hp0]; exact hb)
    obtain ⟨rfl, rfl⟩ := (hBd.congr (hw b.mem)).uniq hBj
    have hQ : ∀ q, q < ages.length → bt (toM ages.length b.mem) q = b.mem q := fun q hq => toM_bit _ _ q hq
    have fin : (a + (rd_T60 T (dif S P : Nat)).f2 < a' + (rd_T60 T (dif S (toM ages.length b.mem) : Nat)).f2 ∨ (a + (rd_T60 T (dif S P : Nat)).f2 = a' + (rd_T60 T (dif S (toM ages.length b.mem) : Nat)).f2 ∧ 1 + (rd_T60 T (dif S P : Nat)).f3 ≤ 1 + (rd_T60 T (dif S (toM ages.length b.mem) : Nat)).f3)) → a + (rd_T60 T (dif S P : Nat)).f2 < a' + (rd_T60 T (dif S (toM ages.length b.mem) : Nat)).f2 ∨ (a + (rd_T60 T (dif S P : Nat)).f2 = a' + (rd_T60 T (dif S (toM ages.length b.mem) : Nat)).f2 ∧ k + 1 ≤ j + 1) := fun h => by
      rw [hk, hj'] at h
      omega
    refine fin ?_
    cases hP with
    | one r h0 hr h1 =>
      obtain rfl : p0 = r := (h1 p0 hp0).1 hb
      have e : toM ages.length b.mem = 2 ^ p0 := Nat.eq_of_testBit_eq fun q => by
        by_cases hq : q < ages.length
        · rw [toM_bit _ _ q hq, Nat.testBit_two_pow]
          by_cases e : q = p0
          · rw [(h1 q hq).2 e, decide_eq_true e.symm]
          · rw [Bool.eq_false_iff.2 (fun h => e ((h1 q hq).1 h)), decide_eq_false (fun h => e h.symm)]
        · rw [bt_lt (toM_lt _ _) q (by omega), Nat.testBit_two_pow, decide_eq_false (by omega)]
      rw [e]
      exact hle 0 (2 ^ p0) _ (.inl ⟨rfl, rfl, rfl⟩)
    | off o h1 h2 h3 h4 h5 h6 =>
      obtain ⟨i, hi, rfl⟩ := mem45 h1
      have e : 2 ^ p0 ||| dif (toM ages.length b.mem) (2 ^ p0) = toM ages.length b.mem := Nat.eq_of_testBit_eq fun q => by
        have h8 : toM ages.length b.mem < 256 := Nat.lt_of_lt_of_le (toM_lt _ _) (Nat.pow_le_pow_right (n := 2) (by decide) ok.len)
        have := dif_bt (b := 2 ^ p0) h8 q
        unfold bt at this
        rw [Nat.testBit_or, this, Nat.testBit_two_pow]
        by_cases e : p0 = q
        · subst e; rw [decide_eq_true rfl, toM_bit _ _ p0 hp0, hb]; rfl
        · rw [decide_eq_false e]; simp
      have hh : holdsV ages (rd_T45 l i) (memTo (toM ages.length b.mem) 8) = true := by
        rw [holds_cn ok.len (toM_lt _ _)]
        refine ⟨?_, ?_⟩
        · rw [cn_congr (g := fun q => b.mem q && adult ages q) (fun q hq => by rw [hQ q hq])]; exact h5
        · rw [cn_congr (g := fun q => b.mem q && !adult ages q) (fun q hq => by rw [hQ q hq])]; exact h6
      refine hle (rd_T45 l i).f0 (toM ages.length b.mem) _ (.inr ⟨dif (toM ages.length b.mem) (2 ^ p0), fun q hq => ?_, e.symm, i, hi, by rw [e]; exact hh, rfl, rfl⟩)
      have h8 : toM ages.length b.mem < 256 := Nat.lt_of_lt_of_le (toM_lt _ _) (Nat.pow_le_pow_right (n := 2) (by decide) ok.len)
      rw [dif_bt h8, Bool.and_eq_true] at hq
      have hqn := bt_in (toM_lt ages.length b.mem) q hq.1
      rw [dif_bt h256, Bool.and_eq_true]
      exact ⟨hm q hqn (by rw [← hQ q hqn]; exact hq.1), hq.2⟩
  · intro b a' hP hb hm
    obtain ⟨j, hj, hBj⟩ := hdB (toM ages.length b.mem) (by rw [show bt (toM ages.length b.mem) p0 = b.mem p0 from toM_bit _ _ p0 hp0]; exact hb)
    exact ⟨_, j, hBj.congr fun q hq => (hw b.mem q hq).symm⟩
/- The loop of Best over the sets: in the end each set's entry is its best division. Condition: a right group. -/
/-- The table before the set x: the entries below are best, and each tells its first bundle. -/
structure Tab (ages prices : List Int) (l : List S45) (T : List S60) (x : Nat) : Prop where
  len : T.length = 2 ^ ages.length
  zero : ∀ R, x ≤ R → rd_T60 T R = z60
  best : ∀ R, R < x → ∃ k : Nat, (rd_T60 T R).f3 = k ∧ Best ages prices l (bt R) (rd_T60 T R).f2 k
  made : ∀ R, R < x → R ≠ 0 → ∃ off P a p0, Ch ages prices l R p0 off P a ∧ (∀ q, q < p0 → bt R q = false) ∧ rd_T60 T R = ⟨off, P, a + (rd_T60 T (dif R P : Nat)).f2, 1 + (rd_T60 T (dif R P : Nat)).f3⟩
theorem Tab.small {ages prices : List Int} {l : List S45} (ok : OKG ages prices l) {T : List S60} {x : Nat} (h : Tab ages prices l T x) : Small T := fun R hR => by
  by_cases hx : R < x
  · obtain ⟨k, hk, hB⟩ := h.best R hx
    have h1 := hB.1.small ok
    have h2 := cn_le ages.length (bt R)
    have h3 := ok.len
    omega
  · rw [h.zero R (by omega)]
    decide
theorem l0_ev {ages prices : List Int} {l : List S45} (ok : OKG ages prices l) {G : List S43 × Int × Int → Prop}
    (cont : ∀ T, Tab ages prices l T (2 ^ ages.length) → ∃ r, Ev (fun k => group_Best.l3 k ([] : List S43) (wrap64 ((T.length : Int) - 1)) T) r ∧ G r) :
    ∀ (d S : Nat) (T : List S60), 2 ^ ages.length - S = d → 1 ≤ S → S ≤ 2 ^ ages.length → Tab ages prices l T S → ∃ r, Ev (fun k => group_Best.l0 k ages prices l S T) r ∧ G r
  | 0, S, T, hd, h1, hS, hT => by
    obtain rfl : S = 2 ^ ages.length := by omega
    obtain ⟨r, hr, hg⟩ := cont T hT
    exact ⟨r, Ev.step (fun k => by rw [group_Best.l0, if_neg (by rw [hT.len]; exact Int.lt_irrefl _)]) hr, hg⟩
  | d + 1, S, T, hd, h1, hS, hT => by
    have hSn : S < 2 ^ ages.length := by omega
    have h8 : (2 : Nat) ^ ages.length ≤ 256 := Nat.pow_le_pow_right (n := 2) (by decide) ok.len
    have h256 : S < 256 := by omega
    have hST : S < T.length := by rw [hT.len]; exact hSn
    have a1 : 2 ^ ages.length - (S + 1) = d := by omega
    have hST2 : (S : Int) < T.length := Int.ofNat_lt.2 hST
    obtain ⟨e1, p0, hp8, e2, hb, hmin⟩ := low_spec (m := S) (by omega) h256
    have hp0 : p0 < ages.length := bt_in hSn p0 hb
    have hf : low S < 256 := by rw [e2]; exact Nat.pow_lt_pow_right (by decide) hp8
    have hch : Ch ages prices l S p0 0 (2 ^ p0) (rd prices p0) := ⟨by rw [← e2]; exact hf, fun q hq => by rw [bt_pow, decide_eq_true_eq] at hq; rw [← hq]; exact hb, by rw [bt_pow]; exact decide_eq_true rfl, single_pr hp0, ok.pr p0 hp0⟩
    obtain ⟨hIn, hC⟩ := Cur.first hST h256 hb (hT.small ok) hch
    have HN := Aside0.mk (wS S (2 ^ ages.length) (by omega) hSn)
    obtain ⟨r, hr, hg⟩ := l1_ev ok hST hSn h256 hb (hT.small ok) (by rw [← e2]; exact hf) hch.sub hch.first (G := G) (tried0 := fun o Q b => o = 0 ∧ Q = 2 ^ p0 ∧ b = rd prices p0) (fun T' hc => by
      have hbS := set_best ok hSn h256 hb hT.best hc
      obtain ⟨off, P, a, ch, he⟩ := hc.is
      have keep : ∀ R : Nat, R ≠ S → rd_T60 T' R = rd_T60 T R := hc.other
      have hdl : ∀ {R P : Nat} {q : Nat}, R ≤ S → bt R q = true → bt P q = true → dif R P < S := fun hR h1 h2 => Nat.lt_of_lt_of_le (dif_lt (by omega) h1 h2) hR
      obtain ⟨r, hr, hg⟩ := l0_ev ok cont d (S + 1) T' a1 (by omega) (by omega) ⟨by rw [hc.len]; exact hT.len, fun R hR => by rw [keep R (by omega)]; exact hT.zero R (by omega), fun R hR => by
          by_cases e : R = S
          · subst e; exact hbS
          · rw [keep R e]; exact hT.best R (by omega), fun R hR h0 => by
          by_cases e : R = S
          · subst e
            refine ⟨off, P, a, p0, ch, hmin, ?_⟩
            rw [keep (dif R P) (Nat.ne_of_lt (dif_lt h256 hb ch.first))]
            exact he
          · obtain ⟨off', P', a', q0, ch', hm', he'⟩ := hT.made R (by omega) h0
            refine ⟨off', P', a', q0, ch', hm', ?_⟩
            have hq : bt R q0 = true := ch'.sub q0 ch'.first
            rw [keep R e, keep (dif R P') (by have := dif_lt (a := R) (b := P') (by omega) hq ch'.first; omega)]
            exact he'⟩
      exact ⟨r, by rw [HN.out]; exact hr, hg⟩) (dif S (2 ^ p0)) (dif S (2 ^ p0)) _ (Nat.le_refl _) (fun _ h => h) (hC.mono fun o Q b hq => by
        rcases hq with hq | ⟨t, ht, hgt, _⟩
        · exact hq
        · exact absurd (Nat.lt_of_lt_of_le hgt (by rw [← sub_and ht]; exact Nat.and_le_right)) (Nat.lt_irrefl _))
    have hm := members_ev hf
    rw [e2, memTo_pow hp8] at hm
    refine ⟨r, Ev.step (fun k => by rw [group_Best.l0, if_pos hST2, e1, bit_andNot h256 hf, e2]) (Ev.bind hm ?_), hg⟩
    have hrd : rd [(p0 : Int)] 0 = (p0 : Int) := rfl
    rw [hrd]
    refine Ev.yes (show (0 : Int) < 1 by decide) (Ev.yes (Int.natCast_nonneg _) (Ev.yes (by have := ok.same; omega) (Ev.yes hIn hr)))
/- The output of Best: the bundles that the table tells. Condition: a right group. -/
def outL (T : List S60) : Nat → Nat → List S43
  | 0, _ => []
  | n + 1, R => if R = 0 then [] else ⟨(rd_T60 T R).f0, memTo (rd_T60 T R).f1.toNat 8⟩ :: outL T n (dif R (rd_T60 T R).f1.toNat)
theorem l3_ev {ages prices : List Int} {l : List S45} (ok : OKG ages prices l) {T : List S60} (hT : Tab ages prices l T (2 ^ ages.length)) : ∀ (n R : Nat) (acc : List S43), R ≤ n → R < 2 ^ ages.length → acc.length + R ≤ 300 → Ev (fun k => group_Best.l3 k acc R T) (acc ++ outL T n R, (rd_T60 T (2 ^ ages.length - 1 : Nat)).f2, 0) := by
  have h8 : (2 : Nat) ^ ages.length ≤ 256 := Nat.pow_le_pow_right (n := 2) (by decide) ok.len
  have hpos : 0 < 2 ^ ages.length := Nat.two_pow_pos _
  have hlast : wrap64 ((T.length : Int) - 1) = ((2 ^ ages.length - 1 : Nat) : Int) := by rw [hT.len, wrap_id (by omega)]; omega
  have HL := Aside0.mk hlast
  have hend : ∀ acc : List S43, Ev (fun k => group_Best.l3 k acc ((0 : Nat) : Int) T) (acc, (rd_T60 T (2 ^ ages.length - 1 : Nat)).f2, 0) := fun acc =>
    Ev.step (fun k => by rw [group_Best.l3, if_neg (by decide), HL.out]) (Ev.yes (Int.natCast_nonneg _) (Ev.yes (by rw [hT.len]; exact Int.ofNat_lt.2 (by omega)) (Ev.now _)))
  clear hlast
  intro n
  induction n with
  | zero =>
    intro R acc hR _ _
    obtain rfl : R = 0 := by omega
    rw [outL, List.append_nil]
    exact hend acc
  | succ n ih =>
    intro R acc hR hRn hacc
    rw [outL]
    by_cases h0 : R = 0
    · subst h0
      rw [if_pos rfl, List.append_nil]
      exact hend acc
    · rw [if_neg h0]
      obtain ⟨off, P, a, p0, ch, hmin, he⟩ := hT.made R hRn h0
      have hlt : dif R P < R := dif_lt (by omega) (ch.sub p0 ch.first) ch.first
      have hf1 : (rd_T60 T R).f1 = (P : Int) := by rw [he]
      have hf0 : (rd_T60 T R).f0 = off := by rw [he]
      rw [hf1, hf0, Int.toNat_natCast]
      have ih := ih (dif R P) (acc ++ [⟨off, memTo P 8⟩]) (by omega) (by omega) (by rw [List.length_append, List.length_singleton]; omega)
      rw [List.append_assoc, List.singleton_append] at ih
      have hR0 : (R : Int) > 0 := by omega
      have hR1 : (R : Int) < T.length := by rw [hT.len]; exact Int.ofNat_lt.2 hRn
      have ha : acc.length < 4398046511104 := by omega
      exact Ev.step (fun k => by rw [group_Best.l3, if_pos hR0, if_pos (Int.natCast_nonneg _), if_pos hR1, hf1, hf0, bit_andNot (show R < 256 by omega) ch.small]) (Ev.bind (members_ev ch.small) (Ev.yes (c := acc.length < 4398046511104) ha ih))
/- What Best computes: the table's last entry, or the error of Right. Condition: lists that a machine can hold. -/
theorem shl_pow_ : ∀ p : Fin 9, shl .i64 1 (p.val : Int) = ((2 ^ p.val : Nat) : Int) := by decide +kernel
theorem rd60_made (n R : Nat) : rd_T60 (List.replicate n z60) R = z60 := by
  unfold rd_T60
  rw [Int.toNat_natCast, List.getD_eq_getElem?_getD, List.getElem?_replicate]
  split <;> rfl
theorem tab_start {ages prices : List Int} {l : List S45} : Tab ages prices l (List.replicate (2 ^ ages.length) z60) 1 := by
  refine ⟨List.length_replicate .., fun R _ => rd60_made _ R, fun R hR => ?_, fun R hR h0 => by omega⟩
  obtain rfl : R = 0 := by omega
  rw [rd60_made]
  exact ⟨0, rfl, best_zero⟩
theorem best_ev {ages prices : List Int} {l : List S45} (ok : OKG ages prices l) (hr : rightG ages prices l = 0) : ∃ T, Tab ages prices l T (2 ^ ages.length) ∧ Ev (fun k => group_Best.f k ages prices l) (outL T (2 ^ ages.length - 1) (2 ^ ages.length - 1), (rd_T60 T (2 ^ ages.length - 1 : Nat)).f2, 0) := by
  have h8 : (2 : Nat) ^ ages.length ≤ 256 := Nat.pow_le_pow_right (n := 2) (by decide) ok.len
  have hpos : 0 < 2 ^ ages.length := Nat.two_pow_pos _
  obtain ⟨r, hE, T, hT, rfl⟩ := l0_ev ok (G := fun r => ∃ T, Tab ages prices l T (2 ^ ages.length) ∧ r = (outL T (2 ^ ages.length - 1) (2 ^ ages.length - 1), (rd_T60 T (2 ^ ages.length - 1 : Nat)).f2, 0)) (fun T hT => by
    have h := l3_ev ok hT (2 ^ ages.length - 1) (2 ^ ages.length - 1) [] (Nat.le_refl _) (by omega) (by rw [List.length_nil]; omega)
    have e : wrap64 ((T.length : Int) - 1) = ((2 ^ ages.length - 1 : Nat) : Int) := by rw [hT.len, wrap_id (by omega)]; omega
    exact ⟨_, by rw [e]; exact h, T, hT, rfl⟩) (2 ^ ages.length - 1) 1 _ rfl (Nat.le_refl _) hpos tab_start
  refine ⟨T, hT, ?_⟩
  have hR := gright_ev ages prices l (by have := ok.len; omega) (by have := ok.olen; omega)
  rw [hr] at hR
  have es : shl .i64 1 (ages.length : Int) = ((2 ^ ages.length : Nat) : Int) := shl_pow_ ⟨ages.length, by have := ok.len; omega⟩
  refine Ev.bind hR (Ev.yes rfl ?_)
  rw [es, Int.toNat_natCast]
  exact Ev.yes (by omega) (Ev.yes (by omega) hE)
theorem best_err {ages prices : List Int} {l : List S45} (ha : ages.length ≤ 9223372036854775807) (hl : l.length ≤ 9223372036854775807) (hr : rightG ages prices l ≠ 0) : Ev (fun k => group_Best.f k ages prices l) ([], 0, rightG ages prices l) :=
  Ev.bind (gright_ev ages prices l ha hl) (Ev.no hr (Ev.now _))
/- The output of Best has as many bundles as its table says. Condition: a right group. -/
theorem out_len {ages prices : List Int} {l : List S45} (ok : OKG ages prices l) {T : List S60} (hT : Tab ages prices l T (2 ^ ages.length)) : ∀ (n R : Nat), R ≤ n → R < 2 ^ ages.length → ((outL T n R).length : Int) = (rd_T60 T R).f3 := by
  have h8 : (2 : Nat) ^ ages.length ≤ 256 := Nat.pow_le_pow_right (n := 2) (by decide) ok.len
  have hz : (rd_T60 T (0 : Nat)).f3 = 0 := by
    obtain ⟨k, hk, hB⟩ := hT.best 0 (Nat.two_pow_pos _)
    have := hB.uniq best_zero
    omega
  intro n
  induction n with
  | zero =>
    intro R hR _
    obtain rfl : R = 0 := by omega
    rw [outL, hz]; rfl
  | succ n ih =>
    intro R hR hRn
    rw [outL]
    by_cases h0 : R = 0
    · subst h0
      rw [if_pos rfl, hz]; rfl
    · rw [if_neg h0]
      obtain ⟨off, P, a, p0, ch, hmin, he⟩ := hT.made R hRn h0
      have hlt : dif R P < R := dif_lt (by omega) (ch.sub p0 ch.first) ch.first
      have hf1 : (rd_T60 T R).f1 = (P : Int) := by rw [he]
      have hf3 : (rd_T60 T R).f3 = 1 + (rd_T60 T (dif R P : Nat)).f3 := by rw [he]
      have ih := ih (dif R P) (by omega) (by omega)
      rw [List.length_cons, hf1, Int.toNat_natCast, hf3]
      omega
end Go.Proofs.Ytdklkjgcnibbgaa.Pure
