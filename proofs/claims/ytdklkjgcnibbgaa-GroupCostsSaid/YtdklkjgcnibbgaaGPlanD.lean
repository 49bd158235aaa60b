/- Both Costs compute the same. Condition: lists that a machine can hold; at most 100 persons. -/
import Derived.Test.YtdklkjgcnibbgaaGPlanC
namespace Go.Proofs.Ytdklkjgcnibbgaa.Pure
open Go.RowKit Go.Proofs.Ytdklkjgcnibbgaa.A Go.Proofs.YtdklkjgcnibbgaaW.PrintWords Go.Proofs.YtdklkjgcnibbgaaW.PrintLast Go.Proofs.YtdklkjgcnibbgaaW.PrintMore
set_option linter.unusedVariables false
set_option linter.unusedSimpArgs false
def cntT : List Bool → Int
  | [] => 0
  | b :: t => (if b = true then 1 else 0) + cntT t
theorem cntT_le : ∀ s : List Bool, 0 ≤ cntT s ∧ cntT s ≤ s.length
  | [] => by simp [cntT]
  | b :: t => by have := cntT_le t; rw [cntT, List.length_cons]; split <;> omega
theorem cntT_all : ∀ s : List Bool, cntT s = s.length ↔ false ∉ s
  | [] => by simp [cntT]
  | b :: t => by
    have h1 := cntT_le t
    have h2 := cntT_all t
    rw [cntT, List.length_cons, List.mem_cons]
    cases b with
    | true =>
      rw [if_pos rfl]
      constructor
      · intro h q
        rcases q with q | q
        · cases q
        · exact h2.1 (by omega) q
      · intro h
        have := h2.2 (fun q => h (.inr q))
        omega
    | false =>
      rw [if_neg (by decide)]
      exact ⟨fun h => by omega, fun h => absurd (.inl rfl) h⟩
theorem cntT_set : ∀ (s : List Bool) (i : Nat), i < s.length → rdOf false s i = false → cntT (s.set i true) = cntT s + 1
  | [], i, h, _ => by simp at h
  | b :: t, 0, _, h => by
    have hb : b = false := h
    subst hb
    rw [List.set_cons_zero, cntT, cntT, if_pos rfl, if_neg (by decide)]
    omega
  | b :: t, i + 1, hi, h => by
    have := cntT_set t i (by simpa using hi) (by simpa [rdOf] using h)
    rw [List.set_cons_succ, cntT, cntT, this]
    omega
theorem hasf_l0 (l : List Bool) (hl : l.length ≤ 9223372036854775807) (d : Nat) : ∀ j : Nat, l.length - j = d → j ≤ l.length → ∃ r : Int, Ev (fun k => slices_Index_bool_bool.l0 k l false l.length j) r ∧ (decide (r ≥ 0) = decide (false ∈ l.drop j)) := by
  induction d with
  | zero =>
    intro j hd hj
    obtain rfl : j = l.length := by omega
    exact ⟨-1, Ev.step (fun k => by rw [slices_Index_bool_bool.l0, if_neg (by omega)]) (Ev.now _), by simp⟩
  | succ d ih =>
    intro j hd hj
    have hlt : j < l.length := by omega
    have hr : rdOf false l j = l[j] := by simp [rdOf, List.getElem?_eq_getElem hlt]
    rw [List.drop_eq_getElem_cons hlt]
    by_cases he : l[j] = false
    · exact ⟨j, Ev.step (fun k => by rw [slices_Index_bool_bool.l0, if_pos (by omega), if_pos (by omega), if_pos (by omega), hr, he, if_pos (by decide)]) (Ev.now _), by rw [he, decide_eq_true (by omega), decide_eq_true (List.mem_cons_self ..)]⟩
    · obtain ⟨r, hE, hr2⟩ := ih (j + 1) (by omega) (by omega)
      have he' : l[j] = true := by simpa using he
      refine ⟨r, Ev.step (fun k => by rw [slices_Index_bool_bool.l0, if_pos (by omega), if_pos (by omega), if_pos (by omega), hr, he', if_neg (by decide), wS j _ hl (by omega)]) hE, ?_⟩
      rw [hr2, he', decide_eq_decide, List.mem_cons]
      exact ⟨.inr, fun h => h.resolve_left (by decide)⟩
theorem hasf_ev (l : List Bool) (hl : l.length ≤ 9223372036854775807) : Ev (fun k => slices_Contains_bool_bool.f k l false) (decide (false ∈ l)) := by
  obtain ⟨r, hE, hr⟩ := hasf_l0 l hl l.length 0 (by omega) (by omega)
  rw [List.drop_zero] at hr
  rw [← hr]
  exact Ev.bind hE (Ev.now _)
theorem rd43_get {l : List S43} {j : Nat} (h : j < l.length) : rd_T43 l j = l[j] := by simp [rd_T43, List.getElem?_eq_getElem h]
theorem cost_l1 (ages prices : List Int) (l : List S45) (L : List S43) (B : S43) (v sum : Int) (j : Nat) (hB : rd_T43 L j = B) (hj : j < L.length) (hL : L.length ≤ 9223372036854775807) (ha : ages.length ≤ 100) (hbl : B.f1.length ≤ 9223372036854775807) (hok : ∀ m : Nat, m < B.f1.length → 0 ≤ rd B.f1 m ∧ rd B.f1 m < ages.length)
    (next : ∀ seen : List Bool, seen.length = ages.length → ∃ r, Ev (fun k => group_Cost.l0 k ages prices l (wrap64 (sum + v)) seen L L.length ((j + 1 : Nat) : Int)) r ∧ Ev (fun k => skiarearef24_Cost.l0 k ages prices l L (wrap64 (sum + v)) seen (cntT seen) ((j + 1 : Nat) : Int)) r) :
    ∀ (e m : Nat) (seen : List Bool), B.f1.length - m = e → m ≤ B.f1.length → seen.length = ages.length → ∃ r, Ev (fun k => group_Cost.l1 k ages prices l sum seen v L L.length j B.f1 (B.f1.length : Int) m) r ∧ Ev (fun k => skiarearef24_Cost.l1 k ages prices l L (wrap64 (sum + v)) seen (cntT seen) j m) r := by
  have HN := Aside0.mk (wS j _ hL hj)
  have hj0 : (0 : Int) ≤ j := Int.natCast_nonneg j
  have hj1 : (j : Int) < L.length := Int.ofNat_lt.2 hj
  intro e
  induction e with
  | zero =>
    intro m seen he' hm hs
    obtain rfl : m = B.f1.length := by omega
    obtain ⟨r, h1, h2⟩ := next seen hs
    have hm0 : ¬ ((B.f1.length : Int) < B.f1.length) := Int.lt_irrefl _
    exact ⟨r, Ev.step (fun k => by rw [group_Cost.l1, if_neg hm0, HN.out]) h1, Ev.step (fun k => by rw [skiarearef24_Cost.l1, if_pos hj0, if_pos hj1, hB, if_neg hm0, HN.out]) h2⟩
  | succ e ih =>
    intro m seen he' hm hs
    have hml : m < B.f1.length := by omega
    have hp := hok m hml
    have a1 : B.f1.length - (m + 1) = e := by omega
    have a2 : m + 1 ≤ B.f1.length := by omega
    have HNM := Aside0.mk (wS m _ hbl hml)
    have hp2 : rd B.f1 m < (seen.length : Int) := by rw [hs]; exact hp.2
    have hm0 : (0 : Int) ≤ m := Int.natCast_nonneg m
    have hm1 : (m : Int) < B.f1.length := Int.ofNat_lt.2 hml
    by_cases hseen : rdOf false seen (rd B.f1 m) = true
    · exact ⟨(0, false), Ev.step (fun k => by rw [group_Cost.l1, if_pos hm1, if_pos hm0, if_pos hm1, if_pos hp.1, if_pos hp2, if_pos hseen]) (Ev.now _), Ev.step (fun k => by rw [skiarearef24_Cost.l1, if_pos hj0, if_pos hj1, hB, if_pos hm1, if_pos hm0, if_pos hp.1, if_pos hp2, if_pos hseen]) (Ev.now _)⟩
    · obtain ⟨r, h1, h2⟩ := ih (m + 1) (seen.set (rd B.f1 m).toNat true) a1 a2 (by rw [List.length_set]; exact hs)
      have ht : (((rd B.f1 m).toNat : Nat) : Int) = rd B.f1 m := Int.toNat_of_nonneg hp.1
      have hc : cntT (seen.set (rd B.f1 m).toNat true) = cntT seen + 1 := cntT_set seen _ (by have := hp2; have := ht; omega) (by rw [ht]; simpa using hseen)
      have hcl := cntT_le seen
      have hw : wrap64 (cntT seen + 1) = cntT seen + 1 := wrap_id (by omega)
      rw [hc] at h2
      exact ⟨r, Ev.step (fun k => by rw [group_Cost.l1, if_pos hm1, if_pos hm0, if_pos hm1, if_pos hp.1, if_pos hp2, if_neg hseen, HNM.out]) h1, Ev.step (fun k => by rw [skiarearef24_Cost.l1, if_pos hj0, if_pos hj1, hB, if_pos hm1, if_pos hm0, if_pos hp.1, if_pos hp2, if_neg hseen, HNM.out, hw]) h2⟩
theorem cost_l0 (ages prices : List Int) (l : List S45) (L : List S43) (ha : ages.length ≤ 100) (he : ages.length = prices.length) (hl : l.length ≤ 9223372036854775807) (hL : L.length ≤ 9223372036854775807) (hb : ∀ b ∈ L, b.f1.length ≤ 9223372036854775807) :
    ∀ (d j : Nat) (seen : List Bool) (sum : Int), L.length - j = d → j ≤ L.length → seen.length = ages.length → ∃ r, Ev (fun k => group_Cost.l0 k ages prices l sum seen L L.length j) r ∧ Ev (fun k => skiarearef24_Cost.l0 k ages prices l L sum seen (cntT seen) j) r
  | 0, j, seen, sum, hd, hj, hs => by
    obtain rfl : j = L.length := by omega
    have hc := cntT_all seen
    have hm0 : ¬ ((L.length : Int) < L.length) := Int.lt_irrefl _
    by_cases h : false ∈ seen
    · refine ⟨(0, false), Ev.step (fun k => by rw [group_Cost.l0, if_neg hm0]) (Ev.bind (hasf_ev seen (by omega)) (Ev.yes (decide_eq_true h) (Ev.now _))), Ev.step (fun k => by rw [skiarearef24_Cost.l0, if_neg hm0]) (Ev.no (fun q => ?_) (Ev.now _))⟩
      exact hc.1 (by rw [hs]; exact q) h
    · have hf : ¬ (decide (false ∈ seen) = true) := fun q => h (of_decide_eq_true q)
      exact ⟨(sum, true), Ev.step (fun k => by rw [group_Cost.l0, if_neg hm0]) (Ev.bind (hasf_ev seen (by omega)) (Ev.no hf (Ev.now _))), Ev.step (fun k => by rw [skiarearef24_Cost.l0, if_neg hm0]) (Ev.yes (by have := hc.2 h; rw [hs] at this; exact this) (Ev.now _))⟩
  | d + 1, j, seen, sum, hd, hj, hs => by
    have hlt : j < L.length := by omega
    have hbl : (rd_T43 L j).f1.length ≤ 9223372036854775807 := by rw [rd43_get hlt]; exact hb _ (List.getElem_mem hlt)
    have P := price_ev ages prices l (rd_T43 L j).f0 (rd_T43 L j).f1 ha he hbl hl
    have O := one_ev ages prices l (rd_T43 L j).f0 (rd_T43 L j).f1 ha he hbl hl
    have hj0 : (0 : Int) ≤ j := Int.natCast_nonneg j
    have hj1 : (j : Int) < L.length := Int.ofNat_lt.2 hlt
    have g0 : ∀ {r}, Ev (fun k => (group_price.f k ages prices l (rd_T43 L j).f0 (rd_T43 L j).f1).bind fun bt111 => if bt111.2 = true then group_Cost.l1 k ages prices l sum seen bt111.1 L L.length j (rd_T43 L j).f1 ((rd_T43 L j).f1.length : Int) 0 else some (0, false)) r → Ev (fun k => group_Cost.l0 k ages prices l sum seen L L.length j) r := fun h => Ev.step (fun k => by rw [group_Cost.l0, if_pos hj1, if_pos hj0, if_pos hj1]) h
    have g1 : ∀ {r}, Ev (fun k => (skiarearef24_one.f k ages prices l (rd_T43 L j).f0 (rd_T43 L j).f1).bind fun bt238 => if bt238.2 = true then skiarearef24_Cost.l1 k ages prices l L (wrap64 (sum + bt238.1)) seen (cntT seen) j 0 else some (0, false)) r → Ev (fun k => skiarearef24_Cost.l0 k ages prices l L sum seen (cntT seen) j) r := fun h => Ev.step (fun k => by rw [skiarearef24_Cost.l0, if_pos hj1, if_pos hj0]) h
    by_cases hv : (oneV ages prices l (rd_T43 L j).f0 (rd_T43 L j).f1).2 = true
    · have hok := ok_all (one_ok hv)
      obtain ⟨r, h1, h2⟩ := cost_l1 ages prices l L (rd_T43 L j) (oneV ages prices l (rd_T43 L j).f0 (rd_T43 L j).f1).1 sum j rfl hlt hL ha hbl hok (fun seen hs => cost_l0 ages prices l L ha he hl hL hb d (j + 1) seen _ (by omega) (by omega) hs) (rd_T43 L j).f1.length 0 seen (by omega) (by omega) hs
      exact ⟨r, g0 (Ev.bind P (Ev.yes hv h1)), g1 (Ev.bind O (Ev.yes hv h2))⟩
    · exact ⟨(0, false), g0 (Ev.bind P (Ev.no hv (Ev.now _))), g1 (Ev.bind O (Ev.no hv (Ev.now _)))⟩
theorem cntT_zero : ∀ n : Nat, cntT (List.replicate n false) = 0
  | 0 => rfl
  | n + 1 => by rw [List.replicate_succ, cntT, cntT_zero n]; rfl
theorem cost_both (ages prices : List Int) (l : List S45) (L : List S43) (ha : ages.length ≤ 100) (he : ages.length = prices.length) (hl : l.length ≤ 9223372036854775807) (hL : L.length ≤ 9223372036854775807) (hb : ∀ b ∈ L, b.f1.length ≤ 9223372036854775807) :
    ∃ r, Ev (fun k => group_Cost.f k ages prices l L) r ∧ Ev (fun k => skiarearef24_Cost.f k ages prices l L) r := by
  obtain ⟨r, h1, h2⟩ := cost_l0 ages prices l L ha he hl hL hb L.length 0 (List.replicate ages.length false) 0 (by omega) (by omega) (List.length_replicate ..)
  rw [cntT_zero] at h2
  refine ⟨r, Ev.yes (by omega) (Ev.yes (by omega) ?_), Ev.yes (by omega) (Ev.yes (by omega) ?_)⟩
  · rw [Int.toNat_natCast]; exact h1
  · rw [Int.toNat_natCast]; exact h2
end Go.Proofs.Ytdklkjgcnibbgaa.Pure
