/- Lists that Cost accepts are divisions; what Best returns, told whole. Condition: a right group. -/
import Derived.Test.YtdklkjgcnibbgaaAx4
import Derived.Test.YtdklkjgcnibbgaaGPa
import Derived.Test.YtdklkjgcnibbgaaGPb
import Derived.Test.YtdklkjgcnibbgaaAx13
namespace Go.Proofs.Ytdklkjgcnibbgaa.Pure
open Go.RowKit Go.Proofs.Ytdklkjgcnibbgaa.A Go.Proofs.YtdklkjgcnibbgaaW.PrintWords Go.Proofs.YtdklkjgcnibbgaaW.PrintLast Go.Proofs.YtdklkjgcnibbgaaW.PrintMore
set_option linter.unusedVariables false
set_option linter.unusedSimpArgs false
/- What a list of bundles that Cost accepts is: a division of all persons. Condition: a right group. -/
/-- The persons that are marked. -/
def sn (s : List Bool) : Nat → Bool := fun p => rdOf false s (p : Int)
theorem sn_get {s : List Bool} {p : Nat} (h : p < s.length) : sn s p = s[p] := by simp [sn, rdOf, List.getElem?_eq_getElem h]
theorem sn_set {s : List Bool} {p q : Nat} (h : p < s.length) : sn (s.set p true) q = (sn s q || decide (q = p)) := by
  unfold sn rdOf
  rw [Int.toNat_natCast, List.getD_eq_getElem?_getD, List.getD_eq_getElem?_getD, List.getElem?_set]
  by_cases e : p = q
  · subst e; rw [if_pos rfl, if_pos h, decide_eq_true rfl, Bool.or_true]; rfl
  · rw [if_neg e, decide_eq_false (fun c => e c.symm), Bool.or_false]
theorem sn_full {s : List Bool} : (∀ q, q < s.length → sn s q = true) ↔ false ∉ s := by
  constructor
  · intro h hm
    obtain ⟨i, hi, e⟩ := List.getElem_of_mem hm
    have := h i hi
    rw [sn_get hi, e] at this
    cases this
  · intro h q hq
    rw [sn_get hq]
    by_cases e : s[q] = true
    · exact e
    · exact absurd (by rw [← Bool.eq_false_iff.2 e]; exact List.getElem_mem hq) h
theorem rd_get {ps : List Int} {j : Nat} (h : j < ps.length) : rd ps j = ps[j] := by simp [rd, List.getElem?_eq_getElem h]
theorem up_of_ok {n : Nat} {ps : List Int} (h : okTo n ps ps.length = true) : ∀ (j i : Nat), i < j → j < ps.length → rd ps i < rd ps j
  | 0, i, hi, _ => by omega
  | j + 1, i, hi, hj => by
    have h1 := okTo_le h hj
    unfold okAt at h1
    rw [Bool.and_eq_true, Bool.or_eq_true, decide_eq_true_eq, decide_eq_true_eq, decide_eq_true_eq] at h1
    have h2 : rd ps j < rd ps ((j + 1 : Nat) : Int) := by
      rcases h1.2 with h3 | h3
      · omega
      · rw [show (((j + 1 : Nat) : Int) - 1) = (j : Int) by omega] at h3; exact h3
    by_cases e : i = j
    · subst e; exact h2
    · exact Int.lt_trans (up_of_ok h j i (by omega) (by omega)) h2
theorem ok_pw {n : Nat} {ps : List Int} (h : okTo n ps ps.length = true) : ps.Pairwise (· < ·) ∧ ∀ x ∈ ps, 0 ≤ x ∧ x < n := by
  constructor
  · rw [List.pairwise_iff_getElem]
    intro i j hi hj hij
    rw [← rd_get hi, ← rd_get hj]
    exact up_of_ok h j i hij hj
  · intro x hx
    obtain ⟨i, hi, rfl⟩ := List.getElem_of_mem hx
    rw [← rd_get hi]
    exact ok_all h i hi
theorem markV_spec {n : Nat} : ∀ {ps : List Int} {s : List Bool}, s.length = n → ps.Pairwise (· < ·) → (∀ x ∈ ps, 0 ≤ x ∧ x < n) → (∀ x ∈ ps, sn s x.toNat = false) → ∃ s', markV s ps = some s' ∧ s'.length = n ∧ ∀ q, q < n → sn s' q = (sn s q || decide ((q : Int) ∈ ps))
  | [], s, hs, _, _, _ => ⟨s, rfl, hs, fun q _ => by simp⟩
  | p :: ps, s, hs, hpw, hin, hun => by
    have hp := hin p (List.mem_cons_self ..)
    have hpt : ((p.toNat : Nat) : Int) = p := Int.toNat_of_nonneg hp.1
    have hpl : p.toNat < s.length := by omega
    have h1 := hun p (List.mem_cons_self ..)
    have h1' : rdOf false s p = false := by rw [← hpt]; exact h1
    rw [List.pairwise_cons] at hpw
    obtain ⟨s', e1, e2, e3⟩ := markV_spec (n := n) (ps := ps) (s := s.set p.toNat true) (by rw [List.length_set]; exact hs) hpw.2 (fun x hx => hin x (List.mem_cons_of_mem _ hx)) (fun x hx => by
      have hlt := hpw.1 x hx
      have hx0 := hin x (List.mem_cons_of_mem _ hx)
      rw [sn_set hpl, hun x (List.mem_cons_of_mem _ hx), decide_eq_false (by omega)]; rfl)
    refine ⟨s', ?_, e2, fun q hq => ?_⟩
    · rw [markV, if_neg (by rw [h1']; decide)]; exact e1
    · rw [e3 q hq, sn_set hpl, Bool.or_assoc]
      congr 1
      rw [← Bool.decide_or, decide_eq_decide, List.mem_cons]
      exact or_congr (by omega) Iff.rfl
theorem markV_inv {n : Nat} : ∀ {ps : List Int} {s s' : List Bool}, s.length = n → (∀ x ∈ ps, 0 ≤ x ∧ x < n) → markV s ps = some s' → ∀ x ∈ ps, sn s x.toNat = false
  | [], s, s', hs, _, _, x, hx => by cases hx
  | p :: ps, s, s', hs, hin, hm, x, hx => by
    have hp := hin p (List.mem_cons_self ..)
    have hpt : ((p.toNat : Nat) : Int) = p := Int.toNat_of_nonneg hp.1
    rw [markV] at hm
    split at hm
    · cases hm
    · rename_i hc
      rcases List.mem_cons.1 hx with e | hx
      · subst e
        have : sn s x.toNat = rdOf false s x := by unfold sn; rw [hpt]
        rw [this]; simpa using hc
      · have := markV_inv (n := n) (by rw [List.length_set]; exact hs) (fun x hx => hin x (List.mem_cons_of_mem _ hx)) hm x hx
        rw [sn_set (by omega), Bool.or_eq_false_iff] at this
        exact this.1
theorem cn_put {p : Nat} {f g : Nat → Bool} {c : Bool} (hf : f p = false) : ∀ {n : Nat}, (∀ q, q < n → g q = (f q || (decide (q = p) && c))) → cn n g = cn n f + if p < n ∧ c = true then 1 else 0
  | 0, _ => by rw [cn, cn, if_neg (fun q => by omega)]
  | n + 1, hg => by
    have ih := cn_put (n := n) hf fun q hq => hg q (by omega)
    have hn := hg n (by omega)
    rw [cn_succ, cn_succ, ih, hn]
    by_cases e : n = p
    · subst e
      rw [hf, decide_eq_true rfl, Bool.false_or, Bool.true_and, if_neg (fun q => Nat.lt_irrefl _ q.1)]
      cases c <;> simp
    · rw [decide_eq_false e, Bool.false_and, Bool.or_false]
      by_cases h : p < n ∧ c = true
      · rw [if_pos h, if_pos (show p < n + 1 ∧ c = true from ⟨by omega, h.2⟩)]; omega
      · rw [if_neg h, if_neg (show ¬ (p < n + 1 ∧ c = true) from fun q => h ⟨by omega, q.2⟩)]; omega
theorem take_lt {ps : List Int} (h : ps.Pairwise (· < ·)) {k : Nat} (hk : k < ps.length) : ∀ x ∈ ps.take k, x < ps[k] := by
  intro x hx
  rw [List.mem_take_iff_getElem] at hx
  obtain ⟨i, hi, rfl⟩ := hx
  exact (List.pairwise_iff_getElem.1 h) i k (by omega) hk (by omega)
theorem pre_cn {ages ps : List Int} (hpw : ps.Pairwise (· < ·)) (hin : ∀ x ∈ ps, 0 ≤ x ∧ x < ages.length) : ∀ k, k ≤ ps.length → (cn ages.length (fun q => decide ((q : Int) ∈ ps.take k) && adult ages q) : Int) = adTo ages ps k ∧ (cn ages.length (fun q => decide ((q : Int) ∈ ps.take k) && !adult ages q) : Int) = k - adTo ages ps k ∧ cn ages.length (fun q => decide ((q : Int) ∈ ps.take k)) = k
  | 0, _ => by
    have z : ∀ g : Nat → Bool, cn ages.length (fun q => decide ((q : Int) ∈ ps.take 0) && g q) = 0 := fun g => cn_zero.2 fun p _ => by simp
    have z2 : cn ages.length (fun q => decide ((q : Int) ∈ ps.take 0)) = 0 := cn_zero.2 fun p _ => by simp
    rw [z, z, z2, adTo]; exact ⟨rfl, rfl, rfl⟩
  | k + 1, hk => by
    obtain ⟨h1, h2, h3⟩ := pre_cn hpw hin k (by omega)
    have hkl : k < ps.length := by omega
    have hx := hin _ (List.getElem_mem hkl)
    have hpt : ((ps[k].toNat : Nat) : Int) = ps[k] := Int.toNat_of_nonneg hx.1
    have hpl : ps[k].toNat < ages.length := by omega
    have hout : decide (((ps[k].toNat : Nat) : Int) ∈ ps.take k) = false := decide_eq_false fun hm => by
      have := take_lt hpw hkl _ hm
      omega
    have hmem : ∀ q : Nat, decide ((q : Int) ∈ ps.take (k + 1)) = (decide ((q : Int) ∈ ps.take k) || decide (q = ps[k].toNat)) := fun q => by
      rw [List.take_succ_eq_append_getElem hkl, ← Bool.decide_or, decide_eq_decide, List.mem_append, List.mem_singleton]
      exact or_congr Iff.rfl (by omega)
    have hr : rd ages (rd ps k) = rd ages (ps[k].toNat : Nat) := by rw [rd_get hkl, hpt]
    have e1 := cn_put (n := ages.length) (p := ps[k].toNat) (f := fun q => decide ((q : Int) ∈ ps.take k) && adult ages q) (g := fun q => decide ((q : Int) ∈ ps.take (k + 1)) && adult ages q) (c := adult ages ps[k].toNat) (by show (decide _ && _) = false; rw [hout]; rfl) (fun q _ => by
      show (decide _ && _) = ((decide _ && _) || _)
      rw [hmem, Bool.and_or_distrib_right]
      congr 1
      by_cases e : q = ps[k].toNat
      · rw [e]
      · rw [decide_eq_false e]; rfl)
    have e2 := cn_put (n := ages.length) (p := ps[k].toNat) (f := fun q => decide ((q : Int) ∈ ps.take k) && !adult ages q) (g := fun q => decide ((q : Int) ∈ ps.take (k + 1)) && !adult ages q) (c := !adult ages ps[k].toNat) (by show (decide _ && _) = false; rw [hout]; rfl) (fun q _ => by
      show (decide _ && _) = ((decide _ && _) || _)
      rw [hmem, Bool.and_or_distrib_right]
      congr 1
      by_cases e : q = ps[k].toNat
      · rw [e]
      · rw [decide_eq_false e]; rfl)
    have e3 := cn_put (n := ages.length) (p := ps[k].toNat) (f := fun q => decide ((q : Int) ∈ ps.take k)) (g := fun q => decide ((q : Int) ∈ ps.take (k + 1))) (c := true) hout (fun q _ => by
      show decide _ = (decide _ || _)
      rw [hmem, Bool.and_true])
    rw [if_pos ⟨hpl, rfl⟩] at e3
    rw [e1, e2, e3, adTo, hr]
    unfold adult
    by_cases ha : rd ages (ps[k].toNat : Nat) ≥ 16
    · rw [if_pos ha, decide_eq_true ha, if_pos ⟨hpl, rfl⟩, if_neg (fun q => by cases q.2)]
      exact ⟨by unfold adult at h1; omega, by unfold adult at h2; omega, by omega⟩
    · rw [if_neg ha, decide_eq_false ha, if_neg (fun q => by cases q.2), if_pos ⟨hpl, rfl⟩]
      exact ⟨by unfold adult at h1; omega, by unfold adult at h2; omega, by omega⟩
/-- A bundle that is valid by itself has its price. -/
theorem one_pr {ages prices : List Int} {l : List S45} {o : Int} {ps : List Int} (h : (oneV ages prices l o ps).2 = true) : Pr ages prices l ⟨o, fun q => decide ((q : Int) ∈ ps)⟩ (oneV ages prices l o ps).1 := by
  have hok := one_ok h
  obtain ⟨hpw, hin⟩ := ok_pw hok
  unfold oneV at h ⊢
  rw [if_pos hok] at h ⊢
  by_cases h0 : o = 0
  · rw [if_pos h0] at h ⊢
    by_cases h1 : ps.length = 1
    · rw [if_pos h1]
      obtain ⟨x, rfl⟩ := List.length_eq_one_iff.1 h1
      have hx := hin x (List.mem_singleton.2 rfl)
      have hxt : ((x.toNat : Nat) : Int) = x := Int.toNat_of_nonneg hx.1
      have e : rd [x] 0 = x := rfl
      rw [e, ← hxt]
      exact .one _ x.toNat h0 (by omega) fun q _ => by
        show decide _ = true ↔ _
        rw [decide_eq_true_eq, List.mem_singleton]
        omega
    · rw [if_neg h1] at h; cases h
  · rw [if_neg h0] at h ⊢
    by_cases h1 : idAt l o < l.length ∧ ps.length ≠ 0 ∧ holdsV ages (rd_T45 l (idAt l o : Nat)) ps = true
    · rw [if_pos h1]
      obtain ⟨c1, c2, c3⟩ := pre_cn hpw hin ps.length (Nat.le_refl _)
      rw [List.take_length] at c1 c2 c3
      have hh := h1.2.2
      unfold holdsV at hh
      rw [Bool.and_eq_true, decide_eq_true_eq, decide_eq_true_eq] at hh
      refine .off _ (rd_T45 l (idAt l o : Nat)) ?_ (beq_iff_eq.1 (id_here h1.1)) h0 ?_ ?_ ?_
      · rw [rd45_get h1.1]; exact List.getElem_mem h1.1
      · rw [c3]; exact h1.2.1
      · rw [c1]; exact hh.1
      · rw [c2]; exact hh.2
    · rw [if_neg h1] at h; cases h
/-- A list that Cost accepts is a division. -/
theorem cost_dv {ages prices : List Int} {l : List S45} (ok : OKG ages prices l) : ∀ (L : List S43) (s : List Bool) (sum c : Int), s.length = ages.length → 0 ≤ sum → sum + 100000000 * L.length ≤ 4000000000 → costV ages prices l L s sum = (c, true) → ∃ d, c = sum + d ∧ Dv ages prices l (fun p => !sn s p) d L.length
  | [], s, sum, c, hs, h0, hb, h => by
    rw [costV] at h
    by_cases hf : false ∈ s
    · rw [if_pos hf] at h; cases h
    · rw [if_neg hf] at h
      cases h
      refine ⟨0, by omega, .nil _ fun p hp => ?_⟩
      show (!sn s p) = false
      rw [sn_full.2 hf p (by omega)]; rfl
  | B :: L, s, sum, c, hs, h0, hb, h => by
    rw [costV] at h
    by_cases hv : (oneV ages prices l B.f0 B.f1).2 = true
    · rw [if_pos hv] at h
      have hP := one_pr hv
      have hc := hP.small ok
      obtain ⟨hpw, hin⟩ := ok_pw (one_ok hv)
      rw [List.length_cons] at hb
      cases hm : markV s B.f1 with
      | none => rw [hm] at h; cases h
      | some s' =>
        rw [hm] at h
        have hun := markV_inv hs hin hm
        obtain ⟨s2, e1, e2, e3⟩ := markV_spec hs hpw hin hun
        rw [hm] at e1
        cases e1
        have hw : wrap64 (sum + (oneV ages prices l B.f0 B.f1).1) = sum + (oneV ages prices l B.f0 B.f1).1 := wrap_id (by omega)
        obtain ⟨d, hd, hD⟩ := cost_dv ok L s' _ c e2 (by rw [hw]; omega) (by rw [hw]; omega) h
        rw [hw] at hd
        refine ⟨(oneV ages prices l B.f0 B.f1).1 + d, by omega, ?_⟩
        rw [List.length_cons]
        refine .cons _ ⟨B.f0, fun q => decide ((q : Int) ∈ B.f1)⟩ _ d L.length hP (fun p hp hm => ?_) (hD.congr fun p hp => ?_)
        · have := hun p (of_decide_eq_true hm)
          rw [Int.toNat_natCast] at this
          show (!sn s p) = true
          rw [this]; rfl
        · show (!sn s' p) = ((!sn s p) && !decide _)
          rw [e3 p hp, Bool.not_or]
    · rw [if_neg hv] at h; cases h
theorem sn_none (n p : Nat) : sn (List.replicate n false) p = false := by
  unfold sn rdOf
  rw [Int.toNat_natCast, List.getD_eq_getElem?_getD, List.getElem?_replicate]
  split <;> rfl
theorem cost_dv0 {ages prices : List Int} {l : List S45} (ok : OKG ages prices l) {L : List S43} (hL : L.length ≤ 20) {c : Int} (h : costV ages prices l L (List.replicate ages.length false) 0 = (c, true)) : Dv ages prices l (fun _ => true) c L.length := by
  obtain ⟨d, hd, hD⟩ := cost_dv ok L _ 0 c (List.length_replicate ..) (Int.le_refl _) (by omega) h
  obtain rfl : c = d := by omega
  exact hD.congr fun p _ => by show (!sn _ p) = true; rw [sn_none]; rfl
/- Cost accepts what Best returns, at the cost that Best tells; the bundles are in the order of their first persons. Condition: a right group. -/
theorem mem_memTo (m : Nat) : ∀ (k q : Nat), (q : Int) ∈ memTo m k ↔ q < k ∧ m.testBit q = true
  | 0, q => by rw [memTo]; exact ⟨fun h => (by cases h), fun h => (by omega)⟩
  | k + 1, q => by
    have ih := mem_memTo m k q
    rw [memTo]
    by_cases hb : m.testBit k = true
    · rw [if_pos hb, List.mem_append, ih, List.mem_singleton]
      constructor
      · rintro (h | h)
        · exact ⟨by omega, h.2⟩
        · obtain rfl : q = k := by omega
          exact ⟨by omega, hb⟩
      · intro h
        by_cases e : q = k
        · exact .inr (by omega)
        · exact .inl ⟨by omega, h.2⟩
    · rw [if_neg hb, ih]
      constructor
      · intro h; exact ⟨by omega, h.2⟩
      · intro h
        refine ⟨?_, h.2⟩
        by_cases e : q = k
        · subst e; exact absurd h.2 hb
        · omega
theorem mem_memTo8 {m n q : Nat} (hn : n ≤ 8) (hm : m < 2 ^ n) : decide ((q : Int) ∈ memTo m 8) = bt m q := by
  unfold bt
  by_cases h : m.testBit q = true
  · rw [h, decide_eq_true]
    exact (mem_memTo m 8 q).2 ⟨by have := bt_in hm q h; omega, h⟩
  · rw [Bool.eq_false_iff.2 h, decide_eq_false]
    exact fun c => h ((mem_memTo m 8 q).1 c).2
theorem dist_eq {l : List S45} (h : l.Pairwise (fun a b => a.f0 ≠ b.f0)) {a b : S45} (ha : a ∈ l) (hb : b ∈ l) (e : a.f0 = b.f0) : a = b := by
  obtain ⟨i, hi, rfl⟩ := List.getElem_of_mem ha
  obtain ⟨j, hj, rfl⟩ := List.getElem_of_mem hb
  rw [List.pairwise_iff_getElem] at h
  rcases Nat.lt_trichotomy i j with c | c | c
  · exact absurd e (h i j hi hj c)
  · subst c; rfl
  · exact absurd e.symm (h j i hj hi c)
theorem id_of {l : List S45} (h : l.Pairwise (fun a b => a.f0 ≠ b.f0)) {o : S45} (ho : o ∈ l) : idAt l o.f0 < l.length ∧ rd_T45 l (idAt l o.f0 : Nat) = o := by
  have hi : idAt l o.f0 < l.length := by
    unfold idAt
    exact List.findIdx_lt_length.2 ⟨o, ho, by simp [hasId]⟩
  refine ⟨hi, dist_eq h ?_ ho (beq_iff_eq.1 (id_here hi))⟩
  rw [rd45_get hi]; exact List.getElem_mem hi
/-- What a bundle of the members of a set costs. -/
theorem pr_one {ages prices : List Int} {l : List S45} (ok : OKG ages prices l) {m : Nat} (hm : m < 2 ^ ages.length) {off a : Int} (h : Pr ages prices l ⟨off, bt m⟩ a) : oneV ages prices l off (memTo m 8) = (a, true) := by
  unfold oneV
  rw [if_pos (memTo_ok (bt_in hm) 8)]
  cases h with
  | one p h0 hp h1 =>
    have h0 : off = 0 := h0
    have e : m = 2 ^ p := Nat.eq_of_testBit_eq fun q => by
      rw [Nat.testBit_two_pow]
      by_cases hq : q < ages.length
      · have := h1 q hq
        by_cases e : p = q
        · rw [decide_eq_true e]; exact this.2 e.symm
        · rw [decide_eq_false e]; exact Bool.eq_false_iff.2 fun c => e (this.1 c).symm
      · rw [bt_lt hm q (by omega), decide_eq_false (by omega)]
    rw [if_pos h0, e, memTo_pow (by have := ok.len; omega), if_pos (show [(p : Int)].length = 1 from rfl)]
    rfl
  | off o h1 h2 h3 h4 h5 h6 =>
    have h2 : o.f0 = off := h2
    have h3 : off ≠ 0 := h3
    subst h2
    obtain ⟨i1, i2⟩ := id_of ok.dist h1
    have hl : (memTo m 8).length ≠ 0 := by
      rw [memTo_len, cn8 ok.len (fun p hp => bt_lt hm p hp)]
      exact h4
    rw [if_neg h3, i2, if_pos ⟨i1, hl, (holds_cn ok.len hm o).2 ⟨h5, h6⟩⟩]
theorem cost_out {ages prices : List Int} {l : List S45} (ok : OKG ages prices l) {T : List S60} (hT : Tab ages prices l T (2 ^ ages.length)) : ∀ (n R : Nat) (s : List Bool) (sum : Int), R ≤ n → R < 2 ^ ages.length → s.length = ages.length → (∀ q, q < ages.length → sn s q = !bt R q) → 0 ≤ sum → sum + (rd_T60 T R).f2 ≤ 10000000000 → costV ages prices l (outL T n R) s sum = (sum + (rd_T60 T R).f2, true) := by
  have h8 : (2 : Nat) ^ ages.length ≤ 256 := Nat.pow_le_pow_right (n := 2) (by decide) ok.len
  have hz : (rd_T60 T (0 : Nat)).f2 = 0 := by
    obtain ⟨k, hk, hB⟩ := hT.best 0 (Nat.two_pow_pos _)
    exact (hB.uniq best_zero).1
  have hend : ∀ (s : List Bool) (sum : Int), s.length = ages.length → (∀ q, q < ages.length → sn s q = !bt 0 q) → costV ages prices l [] s sum = (sum + (rd_T60 T (0 : Nat)).f2, true) := fun s sum hs hq => by
    rw [costV, if_neg (sn_full.1 fun q h => by rw [hq q (by omega)]; unfold bt; rw [Nat.zero_testBit]; rfl), hz, Int.add_zero]
  intro n
  induction n with
  | zero =>
    intro R s sum hR _ hs hq _ _
    obtain rfl : R = 0 := by omega
    rw [outL]; exact hend s sum hs hq
  | succ n ih =>
    intro R s sum hR hRn hs hq h0 hb
    rw [outL]
    by_cases hR0 : R = 0
    · subst hR0
      rw [if_pos rfl]; exact hend s sum hs hq
    · rw [if_neg hR0]
      obtain ⟨off, P, a, p0, ch, hmin, he⟩ := hT.made R hRn hR0
      have hlt : dif R P < R := dif_lt (by omega) (ch.sub p0 ch.first) ch.first
      have hf1 : (rd_T60 T R).f1 = (P : Int) := by rw [he]
      have hf0 : (rd_T60 T R).f0 = off := by rw [he]
      have hf2 : (rd_T60 T R).f2 = a + (rd_T60 T (dif R P : Nat)).f2 := by rw [he]
      have hPn : P < 2 ^ ages.length := sub_lt ch.sub hRn
      have hone := pr_one ok hPn ch.pr
      have hsm := hT.small ok (dif R P) (by rw [hT.len]; omega)
      have ha := ch.pos
      rw [hf2] at hb
      rw [hf1, hf0, hf2, Int.toNat_natCast, costV, hone, if_pos rfl]
      obtain ⟨hpw, hin⟩ := ok_pw (memTo_ok (n := ages.length) (bt_in hPn) 8)
      obtain ⟨s', e1, e2, e3⟩ := markV_spec hs hpw hin (fun x hx => by
        have hx0 := hin x hx
        have hxt : ((x.toNat : Nat) : Int) = x := Int.toNat_of_nonneg hx0.1
        have hb : bt P x.toNat = true := by rw [← mem_memTo8 ok.len hPn, hxt]; exact decide_eq_true hx
        rw [hq _ (by omega), ch.sub _ hb]; rfl)
      show (match markV s (memTo P 8) with
        | some s' => costV ages prices l (outL T n (dif R P)) s' (wrap64 (sum + a))
        | none => (0, false)) = _
      rw [e1]
      show costV ages prices l (outL T n (dif R P)) s' (wrap64 (sum + a)) = _
      rw [wrap_id (by omega), ih (dif R P) s' (sum + a) (by omega) (by omega) e2 (fun q hq' => by
        rw [e3 q hq', hq q hq', mem_memTo8 ok.len hPn, dif_bt (by omega), Bool.not_and, Bool.not_not]) (by omega) (by omega), Int.add_assoc]
theorem memTo_first {m p : Nat} (hp : p < 8) (hb : bt m p = true) (hmin : ∀ q, q < p → bt m q = false) : rd (memTo m 8) 0 = p := by
  have h0 : ∀ k, k ≤ p → memTo m k = [] := by
    intro k
    induction k with
    | zero => intro _; rfl
    | succ k ih =>
      intro hk
      have := hmin k (by omega)
      unfold bt at this
      rw [memTo, this, if_neg (by decide), ih (by omega)]
  have h1 : ∀ d, ∃ t, memTo m (p + 1 + d) = (p : Int) :: t := by
    intro d
    induction d with
    | zero =>
      refine ⟨[], ?_⟩
      unfold bt at hb
      show memTo m (p + 1) = _
      rw [memTo, hb, if_pos rfl, h0 p (Nat.le_refl _)]; rfl
    | succ d ih =>
      obtain ⟨t, ht⟩ := ih
      rw [← Nat.add_assoc, memTo, ht]
      split
      · exact ⟨_, rfl⟩
      · exact ⟨t, rfl⟩
  obtain ⟨t, ht⟩ := h1 (8 - (p + 1))
  rw [show p + 1 + (8 - (p + 1)) = 8 by omega] at ht
  rw [ht]; rfl
/-- The first persons rise, and none is below the least one of R. -/
def Asc (L : List S43) (R : Nat) : Prop := (∀ p0 : Nat, (∀ q, q < p0 → bt R q = false) → ∀ h : 0 < L.length, (p0 : Int) ≤ rd L[0].f1 0) ∧ (∀ i : Nat, ∀ h : i < L.length, 0 < L[i].f1.length) ∧ ∀ i : Nat, ∀ h : i + 1 < L.length, rd L[i].f1 0 < rd L[i + 1].f1 0
theorem out_asc {ages prices : List Int} {l : List S45} (ok : OKG ages prices l) {T : List S60} (hT : Tab ages prices l T (2 ^ ages.length)) : ∀ (n R : Nat), R ≤ n → R < 2 ^ ages.length → Asc (outL T n R) R := by
  have h8 : (2 : Nat) ^ ages.length ≤ 256 := Nat.pow_le_pow_right (n := 2) (by decide) ok.len
  have hnil : ∀ (L : List S43), L = [] → ∀ R : Nat, Asc L R := fun L hL R => by
    subst hL
    exact ⟨fun _ _ h => absurd h (Nat.lt_irrefl _), fun _ h => absurd h (Nat.not_lt_zero _), fun _ h => absurd h (Nat.not_lt_zero _)⟩
  intro n
  induction n with
  | zero => intro R hR _; exact hnil _ rfl R
  | succ n ih =>
    intro R hR hRn
    by_cases hR0 : R = 0
    · exact hnil _ (by rw [outL, if_pos hR0]) R
    · obtain ⟨off, P, a, p0, ch, hmin, he⟩ := hT.made R hRn hR0
      have hlt : dif R P < R := dif_lt (by omega) (ch.sub p0 ch.first) ch.first
      have hf1 : (rd_T60 T R).f1 = (P : Int) := by rw [he]
      have hPn : P < 2 ^ ages.length := sub_lt ch.sub hRn
      have hp0 := bt_in hPn p0 ch.first
      have hpS := ch.sub p0 ch.first
      have hminP : ∀ q, q < p0 → bt P q = false := fun q hq => Bool.eq_false_iff.2 fun c => by
        have := ch.sub q c
        rw [hmin q hq] at this
        cases this
      have hfirst := memTo_first (show p0 < 8 by have := ok.len; omega) ch.first hminP
      have hlen : 0 < (memTo P 8).length := by
        rcases Nat.eq_zero_or_pos (memTo P 8).length with c | c
        · rw [memTo_len, cn8 ok.len (fun p hp => bt_lt hPn p hp)] at c
          exact absurd c (cn_pos hPn fun e => by have := ch.first; rw [e] at this; unfold bt at this; rw [Nat.zero_testBit] at this; cases this)
        · exact c
      obtain ⟨i1, i2, i3⟩ := ih (dif R P) (by omega) (by omega)
      have hminD : ∀ q, q < p0 + 1 → bt (dif R P) q = false := fun q hq => by
        rw [dif_bt (by omega)]
        by_cases e : q = p0
        · subst e; rw [ch.first, Bool.not_true, Bool.and_false]
        · rw [hmin q (by omega)]; rfl
      have eo : outL T (n + 1) R = ⟨(rd_T60 T R).f0, memTo P 8⟩ :: outL T n (dif R P) := by rw [outL, if_neg hR0, hf1, Int.toNat_natCast]
      rw [eo]
      refine ⟨fun q0 hq h => ?_, fun i h => ?_, fun i h => ?_⟩
      · show (q0 : Int) ≤ rd (memTo P 8) 0
        rw [hfirst]
        refine Int.ofNat_le.2 (Nat.le_of_not_lt fun c => ?_)
        rw [hq p0 c] at hpS
        cases hpS
      · cases i with
        | zero => exact hlen
        | succ i => exact i2 i (by simpa using h)
      · cases i with
        | zero =>
          have hl0 : 0 < (outL T n (dif R P)).length := by simpa using h
          have := i1 (p0 + 1) hminD hl0
          show rd (memTo P 8) 0 < rd ((outL T n (dif R P))[0]'hl0).f1 0
          rw [hfirst]
          omega
        | succ i => exact i3 i (by simpa using h)
/- What Best returns, told whole; when Right returns no error. Condition: lists that a machine can hold. -/
theorem oLoop_zero {l : List S45} : ∀ (d j : Nat), (∀ i, j ≤ i → i < j + d → badO (rd_T45 l i) = false ∧ dupO l i = false) → oLoop l d j = 0
  | 0, j, _ => rfl
  | d + 1, j, h => by
    obtain ⟨h1, h2⟩ := h j (Nat.le_refl _) (by omega)
    rw [oLoop, h1, h2, if_neg (by decide), if_neg (by decide)]
    exact oLoop_zero d (j + 1) fun i hi hj => h i (by omega) (by omega)
theorem aLoop_zero {ages prices : List Int} {l : List S45} (ho : oLoop l l.length 0 = 0) : ∀ (d j : Nat), (∀ i, j ≤ i → i < j + d → badA ages prices i = false) → aLoop ages prices l d j = 0
  | 0, j, _ => ho
  | d + 1, j, h => by
    rw [aLoop, h j (Nat.le_refl _) (by omega), if_neg (by decide)]
    exact aLoop_zero ho d (j + 1) fun i hi hj => h i (by omega) (by omega)
theorem right_of {ages prices : List Int} {l : List S45} (ok : OKG ages prices l) (hA : ∀ j : Nat, j < ages.length → 0 ≤ rd ages j ∧ rd ages j ≤ 120) : rightG ages prices l = 0 := by
  have h1 := ok.len
  have h2 := ok.olen
  unfold rightG
  rw [if_neg (by omega), if_pos ok.same]
  refine aLoop_zero (oLoop_zero _ _ fun i hi hj => ?_) _ _ fun i hi hj => ?_
  · have hil : i < l.length := by omega
    have hm : rd_T45 l i ∈ l := by rw [rd45_get hil]; exact List.getElem_mem hil
    have ho := ok.off _ hm
    constructor
    · unfold badO inB
      rw [decide_eq_true (show 1 ≤ (rd_T45 l i).f0 ∧ (rd_T45 l i).f0 ≤ 9999 by omega), decide_eq_true (show 0 ≤ (rd_T45 l i).f1 ∧ (rd_T45 l i).f1 ≤ 8 by omega), decide_eq_true (show 0 ≤ (rd_T45 l i).f2 ∧ (rd_T45 l i).f2 ≤ 8 by omega), decide_eq_true (show 0 ≤ (rd_T45 l i).f3 ∧ (rd_T45 l i).f3 ≤ 100000000 by omega)]
      rfl
    · unfold dupO
      rw [List.any_eq_false]
      intro x hx
      rw [List.mem_take_iff_getElem] at hx
      obtain ⟨j, hj2, rfl⟩ := hx
      have := (List.pairwise_iff_getElem.1 ok.dist) j i (by omega) hil (by omega)
      rw [rd45_get hil]
      simpa [hasId] using this
  · have hil : i < ages.length := by omega
    have := ok.pr i hil
    have h3 := hA i hil
    unfold badA inB
    rw [decide_eq_true h3, decide_eq_true this]
    rfl
theorem right_ages {ages prices : List Int} {l : List S45} (h : rightG ages prices l = 0) : ∀ j : Nat, j < ages.length → 0 ≤ rd ages j ∧ rd ages j ≤ 120 := by
  unfold rightG at h
  split at h
  · cases h
  · split at h
    · obtain ⟨h1, _⟩ := aLoop_ok _ _ h
      intro j hj
      have := h1 j (Nat.zero_le _) (by omega)
      unfold badA inB at this
      rw [Bool.not_eq_false', Bool.and_eq_true] at this
      exact of_decide_eq_true this.1
    · cases h
/-- What Best returns. -/
structure BestOut (ages prices : List Int) (l : List S45) (L : List S43) (c : Int) : Prop where
  best : Best ages prices l (fun _ => true) c L.length
  cost : costV ages prices l L (List.replicate ages.length false) 0 = (c, true)
  small : ∀ b ∈ L, b.f1.length ≤ 8
  len : L.length ≤ 8
  pos : ∀ i : Nat, ∀ h : i < L.length, 0 < L[i].f1.length
  asc : ∀ i : Nat, ∀ h : i + 1 < L.length, rd L[i].f1 0 < rd L[i + 1].f1 0
  cpos : 0 ≤ c ∧ c ≤ 800000000
theorem out_small (T : List S60) : ∀ (n R : Nat), ∀ b ∈ outL T n R, b.f1.length ≤ 8
  | 0, R, b, hb => by cases hb
  | n + 1, R, b, hb => by
    rw [outL] at hb
    split at hb
    · cases hb
    · rcases List.mem_cons.1 hb with h | h
      · subst h
        show (memTo _ 8).length ≤ 8
        rw [memTo_len]; exact cn_le _ _
      · exact out_small T n _ b h
theorem all_bt {n p : Nat} (h : p < n) : bt (2 ^ n - 1) p = true := by
  unfold bt
  rw [Nat.testBit_two_pow_sub_one]; exact decide_eq_true h
theorem best_out {ages prices : List Int} {l : List S45} (hr : rightG ages prices l = 0) : ∃ L c, Ev (fun k => group_Best.f k ages prices l) (L, c, 0) ∧ BestOut ages prices l L c := by
  have ok := right_okg hr
  obtain ⟨T, hT, hE⟩ := best_ev ok hr
  have hpos : 0 < 2 ^ ages.length := Nat.two_pow_pos _
  have hlt : 2 ^ ages.length - 1 < 2 ^ ages.length := by omega
  obtain ⟨k, hk, hB⟩ := hT.best _ hlt
  have hl := out_len ok hT _ _ (Nat.le_refl _) hlt
  have hB' := hB.congr (T := fun _ => true) fun p hp => all_bt hp
  have hs := hB'.1.small ok
  have hcn := cn_le ages.length (fun _ => true)
  have h8 := ok.len
  have hkl : (outL T (2 ^ ages.length - 1) (2 ^ ages.length - 1)).length = k := by omega
  obtain ⟨_, a2, a3⟩ := out_asc ok hT _ _ (Nat.le_refl _) hlt
  have hc := cost_out ok hT _ _ (List.replicate ages.length false) 0 (Nat.le_refl _) hlt (List.length_replicate ..) (fun q hq => by rw [sn_none, all_bt hq]; rfl) (Int.le_refl _) (by omega)
  rw [Int.zero_add] at hc
  exact ⟨_, _, hE, by rw [hkl]; exact hB', hc, out_small _ _ _, by omega, a2, a3, by omega⟩
theorem sumP_in {ages prices : List Int} {l : List S45} (ok : OKG ages prices l) : ∀ n : Nat, n ≤ ages.length → 0 ≤ sumP prices n (fun _ => true) ∧ sumP prices n (fun _ => true) ≤ 100000000 * n
  | 0, _ => ⟨Int.le_refl _, Int.le_refl _⟩
  | n + 1, h => by
    have ih := sumP_in ok n (by omega)
    have := ok.pr n (by omega)
    rw [sumP, if_pos rfl]
    omega
theorem law_best_ev {ages prices : List Int} {l : List S45} {r : List S43 × Int × Int} (h : Ev (fun k => group_Best.f k ages prices l) r) : Ev (fun k => skiarealaw24_best.f k ages prices l) r := Ev.bind h (Ev.now _)
end Go.Proofs.Ytdklkjgcnibbgaa.Pure
