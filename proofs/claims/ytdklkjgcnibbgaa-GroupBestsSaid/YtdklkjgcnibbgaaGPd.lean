/- What the reference's Least and the savings compute. Condition: a right group. -/
import Derived.Test.YtdklkjgcnibbgaaAx28
import Derived.Test.YtdklkjgcnibbgaaGPc
import Derived.Test.YtdklkjgcnibbgaaAx29
import Derived.Test.YtdklkjgcnibbgaaAx14
import Derived.Test.YtdklkjgcnibbgaaAx30
namespace Go.Proofs.Ytdklkjgcnibbgaa.Pure
open Go.RowKit Go.Proofs.Ytdklkjgcnibbgaa.A Go.Proofs.YtdklkjgcnibbgaaW.PrintWords Go.Proofs.YtdklkjgcnibbgaaW.PrintLast Go.Proofs.YtdklkjgcnibbgaaW.PrintMore
set_option linter.unusedVariables false
set_option linter.unusedSimpArgs false
/- What the reference's cheapest computes: the least price of a bundle of a set of persons, -1 if there is none. Condition: a right group. -/
/-- The offers that were looked at: none (0), and the first j. -/
def tr (l : List S45) (j : Nat) (off : Int) : Prop := off = 0 ∨ ∃ i : Nat, i < j ∧ off = (rd_T45 l i).f0
/-- c is the least price of a bundle of the set m with an offer that was looked at, -1 if there is none. -/
def Chp (ages prices : List Int) (l : List S45) (m : Nat) (t : Int → Prop) (c : Int) : Prop :=
  (c = -1 ∧ ∀ off a, t off → ¬ Pr ages prices l ⟨off, bt m⟩ a) ∨ (0 ≤ c ∧ c ≤ 100000000 ∧ (∃ off, Pr ages prices l ⟨off, bt m⟩ c) ∧ ∀ off a, t off → Pr ages prices l ⟨off, bt m⟩ a → c ≤ a)
theorem one_bt {ages prices : List Int} {l : List S45} (ok : OKG ages prices l) {m : Nat} (hm : m < 2 ^ ages.length) {off : Int} (h : (oneV ages prices l off (memTo m 8)).2 = true) : Pr ages prices l ⟨off, bt m⟩ (oneV ages prices l off (memTo m 8)).1 :=
  (one_pr h).congr rfl fun p _ => mem_memTo8 ok.len hm
theorem Chp.next {ages prices : List Int} {l : List S45} (ok : OKG ages prices l) {m : Nat} (hm : m < 2 ^ ages.length) {t : Int → Prop} {c : Int} (h : Chp ages prices l m t c) (off : Int) :
    Chp ages prices l m (fun x => t x ∨ x = off) (if (oneV ages prices l off (memTo m 8)).2 = true ∧ (c < 0 ∨ (oneV ages prices l off (memTo m 8)).1 < c) then (oneV ages prices l off (memTo m 8)).1 else c) := by
  by_cases hv : (oneV ages prices l off (memTo m 8)).2 = true
  · have hP := one_bt ok hm hv
    have hs := hP.small ok
    have huniq : ∀ a, Pr ages prices l ⟨off, bt m⟩ a → a = (oneV ages prices l off (memTo m 8)).1 := fun a ha => by rw [pr_one ok hm ha]
    by_cases hc : c < 0 ∨ (oneV ages prices l off (memTo m 8)).1 < c
    · rw [if_pos ⟨hv, hc⟩]
      refine .inr ⟨hs.1, hs.2, ⟨off, hP⟩, fun x a hx ha => ?_⟩
      rcases hx with hx | hx
      · rcases h with ⟨h1, h2⟩ | ⟨h1, h2, h3, h4⟩
        · exact absurd ha (h2 x a hx)
        · have := h4 x a hx ha
          omega
      · subst hx; rw [huniq a ha]; exact Int.le_refl _
    · rw [if_neg (fun q => hc q.2)]
      rcases h with ⟨h1, h2⟩ | ⟨h1, h2, h3, h4⟩
      · omega
      · refine .inr ⟨h1, h2, h3, fun x a hx ha => ?_⟩
        rcases hx with hx | hx
        · exact h4 x a hx ha
        · subst hx; rw [huniq a ha]; omega
  · rw [if_neg (fun q => hv q.1)]
    have hno : ∀ a, ¬ Pr ages prices l ⟨off, bt m⟩ a := fun a ha => hv (by rw [pr_one ok hm ha])
    rcases h with ⟨h1, h2⟩ | ⟨h1, h2, h3, h4⟩
    · refine .inl ⟨h1, fun x a hx ha => ?_⟩
      rcases hx with hx | hx
      · exact h2 x a hx ha
      · subst hx; exact hno a ha
    · refine .inr ⟨h1, h2, h3, fun x a hx ha => ?_⟩
      rcases hx with hx | hx
      · exact h4 x a hx ha
      · subst hx; exact absurd ha (hno a)
theorem Chp.mono {ages prices : List Int} {l : List S45} {m : Nat} {t t' : Int → Prop} {c : Int} (h : Chp ages prices l m t c) (ht : ∀ x, t' x → t x) : Chp ages prices l m t' c := by
  rcases h with ⟨h1, h2⟩ | ⟨h1, h2, h3, h4⟩
  · exact .inl ⟨h1, fun x a hx => h2 x a (ht x hx)⟩
  · exact .inr ⟨h1, h2, h3, fun x a hx => h4 x a (ht x hx)⟩
theorem cheap_l0 {ages prices : List Int} {l : List S45} (ok : OKG ages prices l) {m : Nat} (hm : m < 2 ^ ages.length) : ∀ (d j : Nat) (c : Int), l.length - j = d → j ≤ l.length → Chp ages prices l m (tr l j) c → ∃ r, Ev (fun k => skiarearef24_cheapest.l0 k ages prices l (memTo m 8) c j) r ∧ Chp ages prices l m (tr l l.length) r
  | 0, j, c, hd, hj, hc => by
    obtain rfl : j = l.length := by omega
    exact ⟨c, Ev.step (fun k => by rw [skiarearef24_cheapest.l0, if_neg (Int.lt_irrefl _)]) (Ev.now _), hc⟩
  | d + 1, j, c, hd, hj, hc => by
    have hlt : j < l.length := by omega
    have hlen : (memTo m 8).length ≤ 9223372036854775807 := by rw [memTo_len]; have := cn_le 8 (fun p => m.testBit p); omega
    have O := one_ev ages prices l (rd_T45 l j).f0 (memTo m 8) (by have := ok.len; omega) ok.same hlen (by have := ok.olen; omega)
    have HN := Aside0.mk (wS j l.length (by have := ok.olen; omega) hlt)
    have hj0 : (0 : Int) ≤ j := Int.natCast_nonneg j
    have hj1 : (j : Int) < l.length := Int.ofNat_lt.2 hlt
    obtain ⟨r, hr, hg⟩ := cheap_l0 ok hm d (j + 1) _ (by omega) (by omega) ((hc.next ok hm (rd_T45 l j).f0).mono (fun x hx => by
      rcases hx with hx | ⟨i, hi, hx⟩
      · exact .inl (.inl hx)
      · by_cases e : i = j
        · subst e; exact .inr hx
        · exact .inl (.inr ⟨i, by omega, hx⟩)))
    refine ⟨r, Ev.step (fun k => by rw [skiarearef24_cheapest.l0, if_pos hj1, if_pos hj0]) (Ev.bind O ?_), hg⟩
    have hj2 : ∀ b : Bool, (b = true ↔ (oneV ages prices l (rd_T45 l j).f0 (memTo m 8)).2 = true ∧ (c < 0 ∨ (oneV ages prices l (rd_T45 l j).f0 (memTo m 8)).1 < c)) → Ev (fun k => skiarearef24_cheapest.j2 k ages prices l (memTo m 8) c j (oneV ages prices l (rd_T45 l j).f0 (memTo m 8)).1 b) r := fun b hb => by
      refine Ev.step (fun k => by rw [skiarearef24_cheapest.j2, HN.out]) ?_
      by_cases e : b = true
      · rw [if_pos (hb.1 e)] at hr
        exact Ev.yes e hr
      · rw [if_neg (fun q => e (hb.2 q))] at hr
        exact Ev.no e hr
    by_cases hv : (oneV ages prices l (rd_T45 l j).f0 (memTo m 8)).2 = true
    · refine Ev.yes hv ?_
      by_cases h0 : c < 0
      · exact Ev.yes h0 (hj2 true ⟨fun _ => ⟨hv, .inl h0⟩, fun _ => rfl⟩)
      · refine Ev.no h0 (hj2 _ ?_)
        rw [decide_eq_true_eq]
        exact ⟨fun h => ⟨hv, .inr h⟩, fun h => h.2.resolve_left h0⟩
    · exact Ev.no hv (hj2 false ⟨fun h => (by cases h), fun h => absurd h.1 hv⟩)
theorem cheap_ev {ages prices : List Int} {l : List S45} (ok : OKG ages prices l) {m : Nat} (hm : m < 2 ^ ages.length) : ∃ c, Ev (fun k => skiarearef24_cheapest.f k ages prices l (m : Int)) c ∧ Chp ages prices l m (fun _ => True) c := by
  have h8 : (2 : Nat) ^ ages.length ≤ 256 := Nat.pow_le_pow_right (n := 2) (by decide) ok.len
  have hlen : (memTo m 8).length ≤ 9223372036854775807 := by rw [memTo_len]; have := cn_le 8 (fun p => m.testBit p); omega
  have O := one_ev ages prices l 0 (memTo m 8) (by have := ok.len; omega) ok.same hlen (by have := ok.olen; omega)
  have h0 : Chp ages prices l m (fun _ => False) (-1) := .inl ⟨rfl, fun _ _ h => h.elim⟩
  have h1 := h0.next ok hm 0
  obtain ⟨r, hr, hg⟩ := cheap_l0 ok hm l.length 0 _ (by omega) (Nat.zero_le _) (h1.mono (fun x hx => by
    rcases hx with hx | ⟨i, hi, hx⟩
    · exact .inr hx
    · omega))
  refine ⟨r, Ev.bind (persons_ev (by omega)) (Ev.bind O ?_), ?_⟩
  · by_cases hv : (oneV ages prices l 0 (memTo m 8)).2 = true
    · rw [if_pos ⟨hv, .inl (by decide)⟩] at hr
      exact Ev.yes hv (Ev.step (fun k => by rw [skiarearef24_cheapest.j0]; rfl) hr)
    · rw [if_neg (fun q => hv q.1)] at hr
      exact Ev.no hv (Ev.step (fun k => by rw [skiarearef24_cheapest.j0]; rfl) hr)
  · have hall : ∀ off a, Pr ages prices l ⟨off, bt m⟩ a → tr l l.length off := fun off a h => by
      cases h with
      | one p h0 hp h1 => exact .inl h0
      | off o h1 h2 h3 h4 h5 h6 =>
        obtain ⟨i, hi, rfl⟩ := mem45 h1
        exact .inr ⟨i, hi, h2.symm⟩
    rcases hg with ⟨h1, h2⟩ | ⟨h1, h2, h3, h4⟩
    · exact .inl ⟨h1, fun x a _ ha => h2 x a (hall x a ha) ha⟩
    · exact .inr ⟨h1, h2, h3, fun x a _ ha => h4 x a (hall x a ha) ha⟩
/- What the reference's Least computes: the best division of all persons. Condition: a right group. -/
theorem rdset_at {xs : List Int} {i : Nat} (x : Int) (hi : i < xs.length) : rd (xs.set i x) i = x := by simp [rd, List.getElem?_set, hi]
theorem rdset_ne {xs : List Int} {i j : Nat} (x : Int) (h : j ≠ i) : rd (xs.set i x) j = rd xs j := by simp [rd, List.getElem?_set, Ne.symm h]
theorem sub_le {a b : Nat} (h : sub a b) : a ≤ b := by rw [← sub_and h]; exact Nat.and_le_right
theorem sub_minus : ∀ (p : Nat) {a b : Nat}, sub b a → bt (a - b) p = (bt a p && !bt b p)
  | 0, a, b, h => by
    have h1 := sub_le h
    have h2 := sub_mod h
    unfold bt
    rw [Nat.testBit_zero, Nat.testBit_zero, Nat.testBit_zero, ← decide_not, ← Bool.decide_and, decide_eq_decide]
    omega
  | p + 1, a, b, h => by
    have h1 := sub_le h
    have h2 := sub_mod h
    have ih := sub_minus p (sub_div h)
    unfold bt at ih ⊢
    rw [Nat.testBit_succ, Nat.testBit_succ, Nat.testBit_succ, ← ih]
    congr 1
    omega
/-- The entry of S after the parts below x were tried. -/
structure LCur (S : Nat) (sg c0 n0 cst cnt : List Int) (x : Nat) : Prop where
  clen : cst.length = c0.length
  nlen : cnt.length = n0.length
  other : ∀ R : Nat, R ≠ S → rd cst R = rd c0 R ∧ rd cnt R = rd n0 R
  is : (rd cst S = -1 ∧ ∀ P : Nat, 1 ≤ P → P < x → sub P S → rd sg P < 0) ∨
    ((∃ P : Nat, sub P S ∧ 1 ≤ P ∧ 0 ≤ rd sg P ∧ rd cst S = rd sg P + rd c0 (S - P : Nat) ∧ rd cnt S = 1 + rd n0 (S - P : Nat)) ∧ ∀ P : Nat, 1 ≤ P → P < x → sub P S → 0 ≤ rd sg P → rd cst S < rd sg P + rd c0 (S - P : Nat) ∨ (rd cst S = rd sg P + rd c0 (S - P : Nat) ∧ rd cnt S ≤ 1 + rd n0 (S - P : Nat)))
def LSmall (S : Nat) (c0 n0 : List Int) : Prop := ∀ R : Nat, R < S → 0 ≤ rd c0 R ∧ rd c0 R ≤ 1000000000 ∧ 0 ≤ rd n0 R ∧ rd n0 R ≤ 1000
theorem LCur.skip {S : Nat} {sg c0 n0 cst cnt : List Int} {x : Nat} (h : LCur S sg c0 n0 cst cnt x) (hx : sub x S → rd sg x < 0) : LCur S sg c0 n0 cst cnt (x + 1) := by
  refine ⟨h.clen, h.nlen, h.other, ?_⟩
  rcases h.is with ⟨h1, h2⟩ | ⟨h1, h2⟩
  · refine .inl ⟨h1, fun P hP hPx hs => ?_⟩
    by_cases e : P = x
    · subst e; exact hx hs
    · exact h2 P hP (by omega) hs
  · refine .inr ⟨h1, fun P hP hPx hs h0 => ?_⟩
    by_cases e : P = x
    · subst e; have := hx hs; omega
    · exact h2 P hP (by omega) hs h0
theorem least_l2 {ages prices : List Int} {l : List S45} (ok : OKG ages prices l) {S : Nat} {sg c0 n0 : List Int} (hS : S < 2 ^ ages.length) (hS1 : 1 ≤ S) (hsg : sg.length = 2 ^ ages.length) (hch : ∀ R : Nat, R < 2 ^ ages.length → rd sg R ≤ 100000000) (hc0 : c0.length = 2 ^ ages.length) (hn0 : n0.length = 2 ^ ages.length) (hsm : LSmall S c0 n0)
    {G : Int × Int → Prop} (cont : ∀ cst cnt, LCur S sg c0 n0 cst cnt (S + 1) → ∃ r, Ev (fun k => skiarearef24_Least.l1 k ((2 ^ ages.length : Nat) : Int) sg cst cnt ((S + 1 : Nat) : Int)) r ∧ G r) :
    ∀ (d P : Nat) (cst cnt : List Int), S + 1 - P = d → 1 ≤ P → P ≤ S + 1 → LCur S sg c0 n0 cst cnt P → ∃ r, Ev (fun k => skiarearef24_Least.l2 k ((2 ^ ages.length : Nat) : Int) sg cst cnt S P) r ∧ G r := by
  have h8 : (2 : Nat) ^ ages.length ≤ 256 := Nat.pow_le_pow_right (n := 2) (by decide) ok.len
  have HNS := Aside0.mk (wS S (2 ^ ages.length) (by omega) hS)
  intro d
  induction d with
  | zero =>
    intro P cst cnt hd h1 hP hc
    obtain rfl : P = S + 1 := by omega
    obtain ⟨r, hr, hg⟩ := cont cst cnt hc
    have hn : ¬ (((S + 1 : Nat) : Int) ≤ (S : Int)) := by omega
    exact ⟨r, Ev.step (fun k => by rw [skiarearef24_Least.l2, if_neg hn, HNS.out]) hr, hg⟩
  | succ d ih =>
    intro P cst cnt hd h1 hP hc
    have hPS : P ≤ S := by omega
    have hPSi : (P : Int) ≤ (S : Int) := by omega
    have a1 : S + 1 - (P + 1) = d := by omega
    have hand := bit_and (a := P) (b := S) (by omega) (by omega)
    have HNP := Aside0.mk (wS P (2 ^ ages.length) (by omega) (by omega))
    have hP0 : (0 : Int) ≤ (P : Int) := Int.natCast_nonneg _
    have hPl : (P : Int) < sg.length := by rw [hsg]; exact Int.ofNat_lt.2 (by omega)
    have skip : (sub P S → rd sg P < 0) → ∀ b : Bool, b = true → ∃ r, Ev (fun k => skiarearef24_Least.j3 k ((2 ^ ages.length : Nat) : Int) sg cst cnt S P b) r ∧ G r := fun hs b hb => by
      obtain ⟨r, hr, hg⟩ := ih (P + 1) cst cnt a1 (by omega) (by omega) (hc.skip hs)
      exact ⟨r, Ev.step (fun k => by rw [skiarearef24_Least.j3, if_pos hb, HNP.out]) hr, hg⟩
    by_cases hs : sub P S
    · have hsub := sub_and hs
      have hbit : Go.bits .and .i64 (P : Int) (S : Int) = (P : Int) := by rw [hand, hsub]
      by_cases hneg : rd sg P < 0
      · obtain ⟨r, hr, hg⟩ := skip (fun _ => hneg) (decide (rd sg P < 0)) (decide_eq_true hneg)
        exact ⟨r, Ev.step (fun k => by rw [skiarearef24_Least.l2, if_pos hPSi, if_pos hbit, if_pos hP0, if_pos hPl]) hr, hg⟩
      · have hSP : S - P < S := by omega
        have hdn : wrap64 ((S : Int) - (P : Int)) = ((S - P : Nat) : Int) := by rw [wrap_id (by omega)]; omega
        have ho := hc.other (S - P) (by omega)
        have hb := hsm (S - P) hSP
        have hsgP := hch P (by omega)
        have hv : wrap64 (rd sg P + rd c0 (S - P : Nat)) = rd sg P + rd c0 (S - P : Nat) := wrap_id (by omega)
        have hm : wrap64 (1 + rd n0 (S - P : Nat)) = 1 + rd n0 (S - P : Nat) := wrap_id (by omega)
        have g1 : (0 : Int) ≤ ((S - P : Nat) : Int) := Int.natCast_nonneg _
        have g2 : ((S - P : Nat) : Int) < cst.length := by rw [hc.clen, hc0]; exact Int.ofNat_lt.2 (by omega)
        have g3 : ((S - P : Nat) : Int) < cnt.length := by rw [hc.nlen, hn0]; exact Int.ofNat_lt.2 (by omega)
        have g4 : (0 : Int) ≤ (S : Int) := Int.natCast_nonneg _
        have g5 : (S : Int) < cst.length := by rw [hc.clen, hc0]; exact Int.ofNat_lt.2 hS
        have g6 : (S : Int) < cnt.length := by rw [hc.nlen, hn0]; exact Int.ofNat_lt.2 hS
        have hSc : S < cst.length := by rw [hc.clen, hc0]; exact hS
        have hSn : S < cnt.length := by rw [hc.nlen, hn0]; exact hS
        have HV := Aside0.mk hv
        have HM := Aside0.mk hm
        have HD := Aside0.mk hdn
        clear hv hm hdn
        have hj4 : ∀ b : Bool, (b = true ↔ (rd cst S < 0 ∨ rd sg P + rd c0 (S - P : Nat) < rd cst S ∨ (rd sg P + rd c0 (S - P : Nat) = rd cst S ∧ 1 + rd n0 (S - P : Nat) < rd cnt S))) → ∃ r, Ev (fun k => skiarearef24_Least.j4 k ((2 ^ ages.length : Nat) : Int) sg cst cnt S P (rd sg P + rd c0 (S - P : Nat)) (1 + rd n0 (S - P : Nat)) b) r ∧ G r := fun b hbb => by
          by_cases e : b = true
          · have hbb := hbb.1 e
            obtain ⟨r, hr, hg⟩ := ih (P + 1) (cst.set S (rd sg P + rd c0 (S - P : Nat))) (cnt.set S (1 + rd n0 (S - P : Nat))) a1 (by omega) (by omega) ⟨by rw [List.length_set]; exact hc.clen, by rw [List.length_set]; exact hc.nlen, fun R hR => by rw [rdset_ne _ hR, rdset_ne _ hR]; exact hc.other R hR, .inr ⟨⟨P, hs, h1, by omega, rdset_at _ hSc, rdset_at _ hSn⟩, fun Q hQ hQx hQs hQ0 => by
              rw [rdset_at _ hSc, rdset_at _ hSn]
              by_cases e2 : Q = P
              · subst e2; exact .inr ⟨rfl, Int.le_refl _⟩
              · rcases hc.is with ⟨i1, i2⟩ | ⟨i1, i2⟩
                · have := i2 Q hQ (by omega) hQs; omega
                · have h3 := i2 Q hQ (by omega) hQs hQ0
                  obtain ⟨P', hP's, hP'1, hP'0, hP'c, hP'n⟩ := i1
                  have h4 := hsm (S - P') (by have := sub_le hP's; omega)
                  omega⟩⟩
            exact ⟨r, Ev.step (fun k => by rw [skiarearef24_Least.j4, if_pos e, if_pos g4, if_pos g5, if_pos g6, HNP.out, Int.toNat_natCast]) hr, hg⟩
          · have hbb : ¬ _ := fun q => e (hbb.2 q)
            obtain ⟨r, hr, hg⟩ := ih (P + 1) cst cnt a1 (by omega) (by omega) ⟨hc.clen, hc.nlen, hc.other, .inr ⟨by
                rcases hc.is with ⟨i1, i2⟩ | ⟨i1, i2⟩
                · omega
                · exact i1, fun Q hQ hQx hQs hQ0 => by
                by_cases e2 : Q = P
                · subst e2; omega
                · rcases hc.is with ⟨i1, i2⟩ | ⟨i1, i2⟩
                  · omega
                  · exact i2 Q hQ (by omega) hQs hQ0⟩⟩
            exact ⟨r, Ev.step (fun k => by rw [skiarearef24_Least.j4, if_neg e, HNP.out]) hr, hg⟩
        have hj3 : ∃ r, Ev (fun k => skiarearef24_Least.j3 k ((2 ^ ages.length : Nat) : Int) sg cst cnt S P (decide (rd sg P < 0))) r ∧ G r := by
          have hne : ¬ (decide (rd sg P < 0) = true) := fun q => hneg (of_decide_eq_true q)
          by_cases e1 : rd cst S < 0
          · obtain ⟨r, hr, hg⟩ := hj4 true ⟨fun _ => .inl e1, fun _ => rfl⟩
            exact ⟨r, Ev.step (fun k => by rw [skiarearef24_Least.j3, if_neg hne, if_pos hP0, if_pos hPl, HD.out, if_pos g1, if_pos g2, if_pos g3, if_pos g4, if_pos g5, if_pos e1, ho.1, ho.2, HV.out, HM.out]) hr, hg⟩
          · by_cases e2 : rd sg P + rd c0 (S - P : Nat) < rd cst S
            · obtain ⟨r, hr, hg⟩ := hj4 true ⟨fun _ => .inr (.inl e2), fun _ => rfl⟩
              exact ⟨r, Ev.step (fun k => by rw [skiarearef24_Least.j3, if_neg hne, if_pos hP0, if_pos hPl, HD.out, if_pos g1, if_pos g2, if_pos g3, if_pos g4, if_pos g5, if_neg e1, ho.1, ho.2, HV.out, HM.out, if_pos e2]) hr, hg⟩
            · by_cases e3 : rd sg P + rd c0 (S - P : Nat) = rd cst S
              · obtain ⟨r, hr, hg⟩ := hj4 (decide (1 + rd n0 (S - P : Nat) < rd cnt S)) (by
                  rw [decide_eq_true_eq]
                  exact ⟨fun q => .inr (.inr ⟨e3, q⟩), fun q => (q.resolve_left e1).resolve_left e2 |>.2⟩)
                exact ⟨r, Ev.step (fun k => by rw [skiarearef24_Least.j3, if_neg hne, if_pos hP0, if_pos hPl, HD.out, if_pos g1, if_pos g2, if_pos g3, if_pos g4, if_pos g5, if_neg e1, ho.1, ho.2, HV.out, HM.out, if_neg e2, if_pos e3, if_pos g6]) hr, hg⟩
              · obtain ⟨r, hr, hg⟩ := hj4 false ⟨fun q => (by cases q), fun q => (e3 ((q.resolve_left e1).resolve_left e2).1).elim⟩
                exact ⟨r, Ev.step (fun k => by rw [skiarearef24_Least.j3, if_neg hne, if_pos hP0, if_pos hPl, HD.out, if_pos g1, if_pos g2, if_pos g3, if_pos g4, if_pos g5, if_neg e1, ho.1, ho.2, HV.out, HM.out, if_neg e2, if_neg e3]) hr, hg⟩
        obtain ⟨r, hr, hg⟩ := hj3
        exact ⟨r, Ev.step (fun k => by rw [skiarearef24_Least.l2, if_pos hPSi, if_pos hbit, if_pos hP0, if_pos hPl]) hr, hg⟩
    · have hbit : ¬ (Go.bits .and .i64 (P : Int) (S : Int) = (P : Int)) := fun q => hs (by
        rw [hand] at q
        have := sub_and_right P S
        rw [show P &&& S = P by omega] at this
        exact this)
      obtain ⟨r, hr, hg⟩ := skip (fun q => absurd q hs) true rfl
      exact ⟨r, Ev.step (fun k => by rw [skiarearef24_Least.l2, if_pos hPSi, if_neg hbit]) hr, hg⟩
theorem lcur_best {ages prices : List Int} {l : List S45} (ok : OKG ages prices l) {S : Nat} {sg c0 n0 cst cnt : List Int} (hS : S < 2 ^ ages.length) (hS1 : 1 ≤ S) (hch : ∀ R : Nat, R < 2 ^ ages.length → Chp ages prices l R (fun _ => True) (rd sg R))
    (hB : ∀ R : Nat, R < S → ∃ k : Nat, rd n0 R = k ∧ Best ages prices l (bt R) (rd c0 R) k) (h : LCur S sg c0 n0 cst cnt (S + 1)) : ∃ k : Nat, rd cnt S = k ∧ Best ages prices l (bt S) (rd cst S) k := by
  have h8 : (2 : Nat) ^ ages.length ≤ 256 := Nat.pow_le_pow_right (n := 2) (by decide) ok.len
  obtain ⟨_, p0, hp8, _, hb, _⟩ := low_spec (m := S) (by omega) (by omega)
  have hp0 : p0 < ages.length := bt_in hS p0 hb
  have hw : ∀ (m : Nat → Bool), (∀ q, q < ages.length → m q = true → bt S q = true) → sub (toM ages.length m) S ∧ ∀ q, q < ages.length → without (bt S) m q = bt (S - toM ages.length m) q := fun m hm => by
    have hs : sub (toM ages.length m) S := fun q hq => by
      have hqn := bt_in (toM_lt ages.length m) q hq
      exact hm q hqn (by rw [← toM_bit ages.length m q hqn]; exact hq)
    refine ⟨hs, fun q hq => ?_⟩
    rw [sub_minus q hs]
    unfold without
    rw [show bt (toM ages.length m) q = m q from toM_bit _ _ q hq]
  have hone : ∀ (m : Nat → Bool), m p0 = true → 1 ≤ toM ages.length m := fun m hm => by
    rcases Nat.eq_zero_or_pos (toM ages.length m) with c | c
    · have := toM_bit ages.length m p0 hp0
      rw [c, Nat.zero_testBit, hm] at this
      cases this
    · exact c
  have hpr : ∀ (b : Bd) (a : Int), Pr ages prices l b a → 0 ≤ rd sg (toM ages.length b.mem) ∧ rd sg (toM ages.length b.mem) ≤ a := fun b a hP => by
    have hP' : Pr ages prices l ⟨b.off, bt (toM ages.length b.mem)⟩ a := hP.congr rfl fun p hp => (toM_bit _ _ p hp).symm
    rcases hch _ (toM_lt ages.length b.mem) with ⟨c1, c2⟩ | ⟨c1, c2, c3, c4⟩
    · exact absurd hP' (c2 _ _ trivial)
    · exact ⟨c1, c4 _ _ trivial hP'⟩
  rcases h.is with ⟨h1, h2⟩ | ⟨⟨P, hPs, hP1, hP0, hPc, hPn⟩, h2⟩
  · have hP := single_pr (ages := ages) (prices := prices) (l := l) hp0
    have h3 := hpr _ _ hP
    have hs := (hw (bt (2 ^ p0)) (fun q hq h => by rw [bt_pow, decide_eq_true_eq] at h; rw [← h]; exact hb)).1
    have h4 := h2 (toM ages.length (bt (2 ^ p0))) (hone _ (by rw [bt_pow]; exact decide_eq_true rfl)) (by have := sub_le hs; omega) hs
    have h5 : 0 ≤ rd sg (toM ages.length (bt (2 ^ p0))) := h3.1
    omega
  · obtain ⟨k, hk, hBk⟩ := hB (S - P) (by have := sub_le hPs; omega)
    refine ⟨k + 1, by omega, ?_⟩
    have hPlt : P < 2 ^ ages.length := by have := sub_le hPs; omega
    rcases hch P hPlt with ⟨c1, c2⟩ | ⟨c1, c2, ⟨off, c3⟩, c4⟩
    · omega
    · rw [hPc]
      refine Best.step hp0 hb (.cons _ ⟨off, bt P⟩ _ _ k c3 (fun q _ hq => hPs q hq) (hBk.1.congr fun q hq => by
        show bt (S - P) q = (bt S q && !bt P q)
        rw [sub_minus q hPs])) ?_ ?_
      · intro b a d j hP hbm hm hBd
        obtain ⟨hs, hwq⟩ := hw b.mem hm
        have hQ1 := hone b.mem hbm
        obtain ⟨j', hj', hBj⟩ := hB (S - toM ages.length b.mem) (by have := sub_le hs; omega)
        obtain ⟨e1, e2⟩ := (hBd.congr hwq).uniq hBj
        obtain ⟨s1, s2⟩ := hpr b a hP
        have h3 := h2 _ hQ1 (by have := sub_le hs; omega) hs s1
        omega
      · intro b a hP hbm hm
        obtain ⟨hs, hwq⟩ := hw b.mem hm
        have hQ1 := hone b.mem hbm
        obtain ⟨j', hj', hBj⟩ := hB (S - toM ages.length b.mem) (by have := sub_le hs; omega)
        exact ⟨_, j', hBj.congr fun q hq => (hwq q hq).symm⟩
theorem least_l1 {ages prices : List Int} {l : List S45} (ok : OKG ages prices l) {sg : List Int} (hsg : sg.length = 2 ^ ages.length) (hch : ∀ R : Nat, R < 2 ^ ages.length → Chp ages prices l R (fun _ => True) (rd sg R)) :
    ∀ (d S : Nat) (cst cnt : List Int), 2 ^ ages.length - S = d → 1 ≤ S → S ≤ 2 ^ ages.length → cst.length = 2 ^ ages.length → cnt.length = 2 ^ ages.length → (∀ R : Nat, R < S → ∃ k : Nat, rd cnt R = k ∧ Best ages prices l (bt R) (rd cst R) k) →
    ∃ r, Ev (fun k => skiarearef24_Least.l1 k ((2 ^ ages.length : Nat) : Int) sg cst cnt S) r ∧ ∃ k : Nat, r.2 = k ∧ Best ages prices l (bt (2 ^ ages.length - 1)) r.1 k := by
  have h8 : (2 : Nat) ^ ages.length ≤ 256 := Nat.pow_le_pow_right (n := 2) (by decide) ok.len
  have hpos : 0 < 2 ^ ages.length := Nat.two_pow_pos _
  intro d
  induction d with
  | zero =>
    intro S cst cnt hd h1 hS hc hn hB
    obtain rfl : S = 2 ^ ages.length := by omega
    have e : wrap64 (((2 ^ ages.length : Nat) : Int) - 1) = ((2 ^ ages.length - 1 : Nat) : Int) := by rw [wrap_id (by omega)]; omega
    have g1 : (0 : Int) ≤ ((2 ^ ages.length - 1 : Nat) : Int) := Int.natCast_nonneg _
    have g2 : ((2 ^ ages.length - 1 : Nat) : Int) < cst.length := by rw [hc]; exact Int.ofNat_lt.2 (by omega)
    have g3 : ((2 ^ ages.length - 1 : Nat) : Int) < cnt.length := by rw [hn]; exact Int.ofNat_lt.2 (by omega)
    obtain ⟨k, hk, hBk⟩ := hB (2 ^ ages.length - 1) (by omega)
    exact ⟨(rd cst (2 ^ ages.length - 1 : Nat), rd cnt (2 ^ ages.length - 1 : Nat)), Ev.step (fun k => by rw [skiarearef24_Least.l1, if_neg (Int.lt_irrefl _), e, if_pos g1, if_pos g2, if_pos g3]) (Ev.now _), k, hk, hBk⟩
  | succ d ih =>
    intro S cst cnt hd h1 hS hc hn hB
    have hSlt : S < 2 ^ ages.length := by omega
    have hSc : S < cst.length := by omega
    have g0 : (S : Int) < ((2 ^ ages.length : Nat) : Int) := Int.ofNat_lt.2 hSlt
    have g1 : (0 : Int) ≤ (S : Int) := Int.natCast_nonneg _
    have g2 : (S : Int) < cst.length := Int.ofNat_lt.2 hSc
    have hB' : ∀ R : Nat, R < S → ∃ k : Nat, rd cnt R = k ∧ Best ages prices l (bt R) (rd (cst.set S (-1)) R) k := fun R hR => by rw [rdset_ne _ (by omega)]; exact hB R hR
    obtain ⟨r, hr, hg⟩ := least_l2 ok (sg := sg) (c0 := cst.set S (-1)) (n0 := cnt) hSlt h1 hsg (fun R hR => by
        rcases hch R hR with ⟨c1, _⟩ | ⟨_, c2, _⟩
        · omega
        · exact c2) (by rw [List.length_set]; exact hc) hn (fun R hR => by
        obtain ⟨k, hk, hBk⟩ := hB' R hR
        have h3 := hBk.1.small ok
        have h4 := cn_le ages.length (bt R)
        have h5 := ok.len
        omega) (G := fun r => ∃ k : Nat, r.2 = k ∧ Best ages prices l (bt (2 ^ ages.length - 1)) r.1 k) (fun cst2 cnt2 hcur => by
        refine ih (S + 1) cst2 cnt2 (by omega) (by omega) (by omega) (by rw [hcur.clen, List.length_set]; exact hc) (by rw [hcur.nlen]; exact hn) fun R hR => ?_
        by_cases e : R = S
        · subst e; exact lcur_best ok hSlt h1 hch hB' hcur
        · obtain ⟨o1, o2⟩ := hcur.other R e
          rw [o1, o2]
          exact hB' R (by omega)) S 1 (cst.set S (-1)) cnt (by omega) (Nat.le_refl _) (by omega) ⟨rfl, rfl, fun R hR => ⟨rfl, rfl⟩, .inl ⟨rdset_at _ hSc, fun P hP hP1 => by omega⟩⟩
    exact ⟨r, Ev.step (fun k => by rw [skiarearef24_Least.l1, if_pos g0, if_pos g1, if_pos g2, Int.toNat_natCast]; rfl) hr, hg⟩
theorem rd_made (n R : Nat) : rd (List.replicate n 0) R = 0 := by
  unfold rd
  rw [Int.toNat_natCast, List.getD_eq_getElem?_getD, List.getElem?_replicate]
  split <;> rfl
theorem rd_snoc_lt {xs : List Int} {x : Int} {j : Nat} (h : j < xs.length) : rd (xs ++ [x]) j = rd xs j := rd_app_lt h
theorem least_l0 {ages prices : List Int} {l : List S45} (ok : OKG ages prices l) : ∀ (d S : Nat) (sg : List Int), 2 ^ ages.length - S = d → S ≤ 2 ^ ages.length → sg.length = S → (∀ R : Nat, R < S → Chp ages prices l R (fun _ => True) (rd sg R)) →
    ∃ r, Ev (fun k => skiarearef24_Least.l0 k ages prices l ((2 ^ ages.length : Nat) : Int) sg S) r ∧ ∃ k : Nat, r.2 = k ∧ Best ages prices l (bt (2 ^ ages.length - 1)) r.1 k := by
  have h8 : (2 : Nat) ^ ages.length ≤ 256 := Nat.pow_le_pow_right (n := 2) (by decide) ok.len
  have hpos : 0 < 2 ^ ages.length := Nat.two_pow_pos _
  intro d
  induction d with
  | zero =>
    intro S sg hd hS hsg hch
    obtain rfl : S = 2 ^ ages.length := by omega
    obtain ⟨r, hr, hg⟩ := least_l1 ok hsg hch (2 ^ ages.length - 1) 1 (List.replicate (2 ^ ages.length) 0) (List.replicate (2 ^ ages.length) 0) rfl (Nat.le_refl _) hpos (List.length_replicate ..) (List.length_replicate ..) (fun R hR => by
      obtain rfl : R = 0 := by omega
      rw [rd_made]
      exact ⟨0, rfl, best_zero⟩)
    have g1 : (0 : Int) ≤ ((2 ^ ages.length : Nat) : Int) := Int.natCast_nonneg _
    have g2 : 2 ^ ages.length ≤ 35184372088832 := by omega
    exact ⟨r, Ev.step (fun k => by rw [skiarearef24_Least.l0, if_neg (Int.lt_irrefl _), if_pos g1, Int.toNat_natCast, if_pos g2]; rfl) hr, hg⟩
  | succ d ih =>
    intro S sg hd hS hsg hch
    have hSlt : S < 2 ^ ages.length := by omega
    obtain ⟨c, hE, hC⟩ := cheap_ev ok hSlt
    have HN := Aside0.mk (wS S (2 ^ ages.length) (by omega) hSlt)
    have g0 : (S : Int) < ((2 ^ ages.length : Nat) : Int) := Int.ofNat_lt.2 hSlt
    have g1 : sg.length < 17592186044416 := by omega
    obtain ⟨r, hr, hg⟩ := ih (S + 1) (sg ++ [c]) (by omega) (by omega) (by rw [List.length_append, List.length_singleton]; omega) (fun R hR => by
      by_cases e : R = S
      · subst e
        have := rd_app_at sg c
        rw [hsg] at this
        rw [this]; exact hC
      · rw [rd_snoc_lt (by omega)]; exact hch R (by omega))
    exact ⟨r, Ev.step (fun k => by rw [skiarearef24_Least.l0, if_pos g0, HN.out]) (Ev.bind hE (Ev.yes g1 hr)), hg⟩
theorem u64_small_ : ∀ p : Fin 9, IntKind.u64.wrap (p.val : Int) = (p.val : Int) := by decide
theorem least_ev {ages prices : List Int} {l : List S45} (ok : OKG ages prices l) : ∃ c k, Ev (fun k => skiarearef24_Least.f k ages prices l) (c, ((k : Nat) : Int)) ∧ Best ages prices l (bt (2 ^ ages.length - 1)) c k := by
  obtain ⟨⟨c, n⟩, hr, k, hk, hB⟩ := least_l0 ok (2 ^ ages.length) 0 [] (Nat.sub_zero _) (Nat.zero_le _) rfl (fun R hR => by omega)
  have hk : n = (k : Int) := hk
  subst hk
  have e1 : IntKind.u64.wrap (ages.length : Int) = (ages.length : Int) := u64_small_ ⟨ages.length, by have := ok.len; omega⟩
  have e2 : shl .i64 1 (ages.length : Int) = ((2 ^ ages.length : Nat) : Int) := shl_pow_ ⟨ages.length, by have := ok.len; omega⟩
  refine ⟨c, k, ?_, hB⟩
  refine Ev.yes (by rw [e1]; exact Int.natCast_nonneg _) ?_
  rw [e1, e2]
  exact hr
/- The savings, and the reference's Least beside Best. Condition: a right group. -/
theorem saving_l0 {ages prices : List Int} {l : List S45} (ok : OKG ages prices l) (c : Int) : ∀ (d j : Nat), prices.length - j = d → j ≤ prices.length → Ev (fun k => group_Saving.l0 k c (sumP prices j (fun _ => true)) prices prices.length j) (wrap64 (sumP prices prices.length (fun _ => true) - c), 0)
  | 0, j, hd, hj => by
    obtain rfl : j = prices.length := by omega
    exact Ev.step (fun k => by rw [group_Saving.l0, if_neg (Int.lt_irrefl _)]) (Ev.now _)
  | d + 1, j, hd, hj => by
    have h8 := ok.len
    have hs := ok.same
    have hjl : j < prices.length := by omega
    have ih := saving_l0 ok c d (j + 1) (by omega) (by omega)
    have h1 := sumP_in ok j (by omega)
    have h2 := ok.pr j (by omega)
    have HN := Aside0.mk (wS j prices.length (by omega) hjl)
    have HW := Aside0.mk (wrap_id (x := sumP prices j (fun _ => true) + rd prices j) (by omega))
    have g0 : (0 : Int) ≤ j := Int.natCast_nonneg j
    have g1 : (j : Int) < prices.length := Int.ofNat_lt.2 hjl
    rw [sumP, if_pos rfl] at ih
    exact Ev.step (fun k => by rw [group_Saving.l0, if_pos g1, if_pos g0, if_pos g1, HN.out, HW.out]) ih
theorem gsaving_ev {ages prices : List Int} {l : List S45} (ok : OKG ages prices l) {L : List S43} {c : Int} (h : Ev (fun k => group_Best.f k ages prices l) (L, c, 0)) : Ev (fun k => group_Saving.f k ages prices l) (wrap64 (sumP prices prices.length (fun _ => true) - c), 0) :=
  Ev.bind h (Ev.yes rfl (saving_l0 ok c prices.length 0 (by omega) (Nat.zero_le _)))
theorem rsaving_l0 {ages prices : List Int} {l : List S45} (ok : OKG ages prices l) {c n : Int} (hE : Ev (fun k => skiarearef24_Least.f k ages prices l) (c, n)) : ∀ (d j : Nat), prices.length - j = d → j ≤ prices.length → Ev (fun k => skiarearef24_Saving.l0 k ages prices l (sumP prices j (fun _ => true)) j) (wrap64 (sumP prices prices.length (fun _ => true) - c), 0)
  | 0, j, hd, hj => by
    obtain rfl : j = prices.length := by omega
    exact Ev.step (fun k => by rw [skiarearef24_Saving.l0, if_neg (Int.lt_irrefl _)]) (Ev.bind hE (Ev.now _))
  | d + 1, j, hd, hj => by
    have h8 := ok.len
    have hs := ok.same
    have hjl : j < prices.length := by omega
    have ih := rsaving_l0 ok hE d (j + 1) (by omega) (by omega)
    have h1 := sumP_in ok j (by omega)
    have h2 := ok.pr j (by omega)
    have HN := Aside0.mk (wS j prices.length (by omega) hjl)
    have HW := Aside0.mk (wrap_id (x := sumP prices j (fun _ => true) + rd prices j) (by omega))
    have g0 : (0 : Int) ≤ j := Int.natCast_nonneg j
    have g1 : (j : Int) < prices.length := Int.ofNat_lt.2 hjl
    rw [sumP, if_pos rfl] at ih
    exact Ev.step (fun k => by rw [skiarearef24_Saving.l0, if_pos g1, if_pos g0, HN.out, HW.out]) ih
theorem rsaving_ev {ages prices : List Int} {l : List S45} (hr : rightG ages prices l = 0) {c n : Int} (hE : Ev (fun k => skiarearef24_Least.f k ages prices l) (c, n)) : Ev (fun k => skiarearef24_Saving.f k ages prices l) (wrap64 (sumP prices prices.length (fun _ => true) - c), 0) := by
  have ok := right_okg hr
  have h := grright_ev ages prices l (by have := ok.len; omega) (by have := ok.olen; omega)
  rw [hr] at h
  exact Ev.bind h (Ev.yes rfl (rsaving_l0 ok hE prices.length 0 (by omega) (Nat.zero_le _)))
theorem least_all {ages prices : List Int} {l : List S45} (ok : OKG ages prices l) {L : List S43} {c : Int} (h : BestOut ages prices l L c) : Ev (fun k => skiarearef24_Least.f k ages prices l) (c, (L.length : Int)) := by
  obtain ⟨c', k, hE, hB⟩ := least_ev ok
  obtain ⟨rfl, rfl⟩ := h.best.uniq (hB.congr fun p hp => all_bt hp)
  exact hE
end Go.Proofs.Ytdklkjgcnibbgaa.Pure
