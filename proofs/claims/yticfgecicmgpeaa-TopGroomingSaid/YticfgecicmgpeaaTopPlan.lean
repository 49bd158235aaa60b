/- The plans of the groomers: what the law's plain proof needs of the theory (carved out of this seat's texts). Condition: a right list of tasks. -/
import Derived.Test.YticfgecicmgpeaaAx0
import Derived.Test.YticfgecicmgpeaaAx5
import Derived.Test.YticfgecicmgpeaaAx6
import Derived.Test.YticfgecicmgpeaaAx7
import Derived.Test.YticfgecicmgpeaaAx8
import Derived.Test.YticfgecicmgpeaaAx9
import Derived.Test.YticfgecicmgpeaaAx24
import Derived.Test.YticfgecicmgpeaaAx26
import Derived.Test.YticfgecicmgpeaaAx27
import Derived.Test.YticfgecicmgpeaaAx28
import Derived.Test.YticfgecicmgpeaaOpen
namespace Go.Proofs.Yticfgecicmgpeaa.Pure
open Go.RowKit Go.Proofs.Yticfgecicmgpeaa.A Go.Proofs.YticfgecicmgpeaaW.PrintWords Go.Proofs.YticfgecicmgpeaaW.PrintLast Go.Proofs.YticfgecicmgpeaaW.PrintMore
set_option linter.unusedVariables false
set_option linter.unusedSimpArgs false
def fitsB (l : List S34) (win : List Bool) (s : S37) : Bool := decide (runAt l s.f1 < l.length ∧ 1 ≤ s.f0 ∧ s.f0 ≤ win.length ∧ 0 ≤ s.f2 ∧ s.f2 ≤ s.f3) && (decide (wrap64 (s.f3 - s.f2) = (rd_T34 l (runAt l s.f1 : Nat)).f1) && (rdOf false win (s.f0 - 1) || !(rd_T34 l (runAt l s.f1 : Nat)).f2))
def overB (a b : S37) : Bool := decide (a.f2 < b.f3) && decide (b.f2 < a.f3)
def badB (l : List S34) (a b : S37) : Bool := (a.f1 == b.f1) || (overB a b && ((a.f0 == b.f0) || clashT (rd_T34 l (runAt l a.f1 : Nat)) (rd_T34 l (runAt l b.f1 : Nat))))
def rvK (l : List S34) (plan : List S37) (i : Nat) : Nat → Bool
 | 0 => true
 | k + 1 => rvK l plan i k && !badB l (rd_T37 plan i) (rd_T37 plan k)
def rvTo (l : List S34) (win : List Bool) (plan : List S37) : Nat → Bool
 | 0 => true
 | i + 1 => rvTo l win plan i && (fitsB l win (rd_T37 plan i) && rvK l plan i i)
def rvalV (l : List S34) (win : List Bool) (plan : List S37) : Bool := (plan.length == l.length) && rvTo l win plan plan.length
theorem rvK_no {l : List S34} {plan : List S37} {i k : Nat} (h : rvK l plan i k = false) : ∀ d, rvK l plan i (k + d) = false
 | 0 => h
 | d + 1 => by rw [← Nat.add_assoc, rvK, rvK_no h d]; rfl
theorem rvTo_no {l : List S34} {win : List Bool} {plan : List S37} {k : Nat} (h : rvTo l win plan k = false) : ∀ d, rvTo l win plan (k + d) = false
 | 0 => h
 | d + 1 => by rw [← Nat.add_assoc, rvTo, rvTo_no h d]; rfl
theorem rv_in {l : List S34} {win : List Bool} {plan : List S37} : ∀ {i : Nat}, rvTo l win plan i = true → ∀ k, k < i → fitsB l win (rd_T37 plan k) = true
 | 0, _, k, hk => absurd hk (by omega)
 | i + 1, h, k, hk => by
  simp only [rvTo, Bool.and_eq_true] at h
  by_cases he : k = i
  ·subst he; exact h.2.1
  ·exact rv_in h.1 k (by omega)
theorem fits_in {l : List S34} {win : List Bool} {s : S37} (h : fitsB l win s = true) : runAt l s.f1 < l.length := by
 simp only [fitsB, Bool.and_eq_true, decide_eq_true_eq] at h
 exact h.1.1
theorem runAt_lt {l : List S34} {i : Nat} (h : i < l.length) : runAt l (rd_T34 l i).f0 < l.length := by
 rw [rdT_get h]
 exact List.findIdx_lt_length_of_exists ⟨l[i], List.getElem_mem h, by simp [hasRun]⟩
theorem rd37_get {l : List S37} {j : Nat} (h : j < l.length) : rd_T37 l j = l[j] := by simp [rd_T37, List.getElem?_eq_getElem h]
/-- The tasks and groomers are accepted. -/
structure OKL (l : List S34) (win : List Bool) : Prop where
  len : l.length ≤ 6
  wlen : win.length ≤ 3
  wpos : 1 ≤ win.length
  each : ∀ x ∈ l, 1 ≤ x.f0 ∧ x.f0 ≤ 9999 ∧ 1 ≤ x.f1 ∧ x.f1 ≤ 86400 ∧ x.f3.length ≤ 6 ∧ (x.f2 = true → true ∈ win)
  dist : l.Pairwise (fun a b => a.f0 ≠ b.f0)
/-- The task of a shift. -/
def tk (l : List S34) (a : S37) : S34 := rd_T34 l (runAt l a.f1 : Nat)
def Fit (l : List S34) (win : List Bool) (a : S37) : Prop := runAt l a.f1 < l.length ∧ 1 ≤ a.f0 ∧ a.f0 ≤ win.length ∧ 0 ≤ a.f2 ∧ a.f3 = a.f2 + (tk l a).f1 ∧ (rdOf false win (a.f0 - 1) = true ∨ (tk l a).f2 = false)
def Cf (l : List S34) (a b : S37) : Prop := a.f0 = b.f0 ∨ clashT (tk l a) (tk l b) = true
def Sep (l : List S34) (a b : S37) : Prop := a.f1 ≠ b.f1 ∧ (Cf l a b → a.f3 ≤ b.f2 ∨ b.f3 ≤ a.f2)
def Good (l : List S34) (win : List Bool) (P : List S37) : Prop := (∀ a ∈ P, Fit l win a) ∧ P.Pairwise (Sep l)
def VP (l : List S34) (win : List Bool) (P : List S37) : Prop := P.length = l.length ∧ Good l win P
theorem clash_comm (a b : S34) : clashT a b = clashT b a := by unfold clashT; exact Bool.or_comm _ _
theorem Cf.symm {l : List S34} {a b : S37} (h : Cf l a b) : Cf l b a := h.elim (fun e => .inl e.symm) fun e => .inr (by rw [clash_comm]; exact e)
theorem Sep.symm {l : List S34} {a b : S37} (h : Sep l a b) : Sep l b a := ⟨fun e => h.1 e.symm, fun c => (h.2 c.symm).symm⟩
theorem run_idx {l : List S34} (hd : l.Pairwise (fun a b => a.f0 ≠ b.f0)) {i : Nat} (hi : i < l.length) : runAt l (rd_T34 l i).f0 = i := by
  rw [List.pairwise_iff_getElem] at hd
  have h1 : runAt l (rd_T34 l i).f0 < l.length := runAt_lt hi
  have h2 := beq_iff_eq.1 (run_here h1)
  generalize runAt l (rd_T34 l i).f0 = j at h1 h2 ⊢
  rw [rdT_get h1, rdT_get hi] at h2
  rcases Nat.lt_trichotomy j i with h | h | h
  · exact absurd h2 (hd _ _ h1 hi h)
  · exact h
  · exact absurd h2.symm (hd _ _ hi h1 h)
theorem tk_mem {l : List S34} {a : S37} (h : runAt l a.f1 < l.length) : tk l a ∈ l := by
  unfold tk; rw [rdT_get h]; exact List.getElem_mem h
theorem tk_run {l : List S34} {a : S37} (h : runAt l a.f1 < l.length) : (tk l a).f0 = a.f1 := beq_iff_eq.1 (run_here h)
theorem tk_eq {l : List S34} {a b : S37} (h : a.f1 = b.f1) : tk l a = tk l b := by unfold tk; rw [h]
theorem Fit.dur {l : List S34} {win : List Bool} {a : S37} (ok : OKL l win) (h : Fit l win a) : a.f2 + 1 ≤ a.f3 ∧ a.f3 ≤ a.f2 + 86400 := by
  have h1 := ok.each _ (tk_mem h.1)
  have h2 := h.2.2.2.2.1
  omega
/-- A list without repetition in another one is no longer. -/
theorem nodup_le : ∀ (xs ys : List Int), xs.Nodup → (∀ x ∈ xs, x ∈ ys) → xs.length ≤ ys.length
  | [], _, _, _ => Nat.zero_le _
  | x :: xs, ys, hn, hs => by
    rw [List.nodup_cons] at hn
    have hx := hs x (List.mem_cons_self ..)
    have h := nodup_le xs (ys.erase x) hn.2 fun y hy => (List.mem_erase_of_ne (fun e => by subst e; exact hn.1 hy)).2 (hs y (List.mem_cons_of_mem _ hy))
    rw [List.length_erase_of_mem hx] at h
    have := List.length_pos_of_mem hx
    rw [List.length_cons]; omega
theorem Good.nodup {l : List S34} {win : List Bool} {P : List S37} (h : Good l win P) : (P.map (·.f1)).Nodup := by
  unfold List.Nodup
  rw [List.pairwise_map]
  exact h.2.imp fun h => h.1
theorem Good.perm {l : List S34} {win : List Bool} {P Q : List S37} (h : Good l win P) (p : P.Perm Q) : Good l win Q :=
  ⟨fun a ha => h.1 a (p.mem_iff.2 ha), (p.pairwise_iff fun h => Sep.symm h).1 h.2⟩
/-- A shift is placed: m is the earliest time after all shifts in its way. -/
structure Start (l : List S34) (P : List S37) (i : Nat) (g : Int) (m : Int) : Prop where
  nonneg : 0 ≤ m
  is : m = 0 ∨ ∃ a ∈ P, (a.f0 = g ∨ clashT (tk l a) (rd_T34 l i) = true) ∧ m = a.f3
  le : ∀ a ∈ P, (a.f0 = g ∨ clashT (tk l a) (rd_T34 l i) = true) → a.f3 ≤ m
theorem tk_new {l : List S34} (hd : l.Pairwise (fun a b => a.f0 ≠ b.f0)) {i : Nat} (hi : i < l.length) (g s e : Int) : tk l ⟨g, (rd_T34 l i).f0, s, e⟩ = rd_T34 l i := by
  unfold tk; rw [run_idx hd hi]
/-- What is placed after all in its way keeps a plan good. -/
theorem Good.add {l : List S34} {win : List Bool} {P : List S37} (ok : OKL l win) (h : Good l win P) {i : Nat} (hi : i < l.length) (hn : ∀ a ∈ P, a.f1 ≠ (rd_T34 l i).f0) {g m : Int} (hg : 1 ≤ g ∧ g ≤ win.length)
    (hw : rdOf false win (g - 1) = true ∨ (rd_T34 l i).f2 = false) (hm0 : 0 ≤ m) (hm : ∀ a ∈ P, (a.f0 = g ∨ clashT (tk l a) (rd_T34 l i) = true) → a.f3 ≤ m) :
    Good l win (⟨g, (rd_T34 l i).f0, m, m + (rd_T34 l i).f1⟩ :: P) := by
  have ht := tk_new ok.dist hi g m (m + (rd_T34 l i).f1)
  refine ⟨fun a ha => ?_, List.pairwise_cons.2 ⟨fun a ha => ⟨fun e => hn a ha e.symm, fun c => .inr ?_⟩, h.2⟩⟩
  · rcases List.mem_cons.1 ha with rfl | ha
    · refine ⟨runAt_lt hi, hg.1, hg.2, hm0, ?_, ?_⟩
      · rw [ht]
      · rw [ht]; exact hw
    · exact h.1 a ha
  · refine hm a ha (c.symm.imp (fun e => e) fun e => ?_)
    rw [ht] at e
    exact e
/-- The plan P follows the valid plan σ: its shifts have σ's groomers and end no later, and what is left begins no earlier in σ. -/
def Fol (σ P : List S37) : Prop := ∀ a ∈ P, ∃ b ∈ σ, b.f1 = a.f1 ∧ b.f0 = a.f0 ∧ a.f3 ≤ b.f3 ∧ ∀ c ∈ σ, (∀ d ∈ P, d.f1 ≠ c.f1) → b.f2 ≤ c.f2
theorem least_of : ∀ (xs : List S37) (p : S37 → Prop), (∃ c ∈ xs, p c) → ∃ c ∈ xs, p c ∧ ∀ d ∈ xs, p d → c.f2 ≤ d.f2
  | [], _, h => by obtain ⟨_, h, _⟩ := h; cases h
  | x :: xs, p, h => by
    by_cases hx : p x
    · by_cases ht : ∃ c ∈ xs, p c
      · obtain ⟨c, hc, hp, hl⟩ := least_of xs p ht
        by_cases hxc : x.f2 ≤ c.f2
        · exact ⟨x, List.mem_cons_self .., hx, fun d hd hpd => by
            rcases List.mem_cons.1 hd with rfl | hd
            · omega
            · have := hl d hd hpd; omega⟩
        · exact ⟨c, List.mem_cons_of_mem _ hc, hp, fun d hd hpd => by
            rcases List.mem_cons.1 hd with rfl | hd
            · omega
            · exact hl d hd hpd⟩
      · exact ⟨x, List.mem_cons_self .., hx, fun d hd hpd => by
          rcases List.mem_cons.1 hd with rfl | hd
          · omega
          · exact absurd ⟨d, hd, hpd⟩ ht⟩
    · obtain ⟨c, hc, hpc⟩ := h
      have hc' : c ∈ xs := by
        rcases List.mem_cons.1 hc with rfl | hc
        · exact absurd hpc hx
        · exact hc
      obtain ⟨c, hc, hp, hl⟩ := least_of xs p ⟨c, hc', hpc⟩
      exact ⟨c, List.mem_cons_of_mem _ hc, hp, fun d hd hpd => by
        rcases List.mem_cons.1 hd with rfl | hd
        · exact absurd hpd hx
        · exact hl d hd hpd⟩
theorem sep_of {l : List S34} {P : List S37} (h : P.Pairwise (Sep l)) {a b : S37} (ha : a ∈ P) (hb : b ∈ P) (hne : a.f1 ≠ b.f1) : Sep l a b := by
  obtain ⟨i, hi, rfl⟩ := List.getElem_of_mem ha
  obtain ⟨j, hj, rfl⟩ := List.getElem_of_mem hb
  rw [List.pairwise_iff_getElem] at h
  rcases Nat.lt_trichotomy i j with q | q | q
  · exact h i j hi hj q
  · subst q; exact absurd rfl hne
  · exact (h j i hj hi q).symm
/-- The shift of σ to follow next. -/
theorem Fol.next {l : List S34} {win : List Bool} {σ P : List S37} (ok : OKL l win) (hσ : VP l win σ) (hG : Good l win P) (hf : Fol σ P) (hlt : P.length < l.length) :
    ∃ i g : Nat, i < l.length ∧ g < win.length ∧ (∀ a ∈ P, a.f1 ≠ (rd_T34 l i).f0) ∧ (rdOf false win (g : Int) = true ∨ (rd_T34 l i).f2 = false) ∧ ∃ c ∈ σ, ∀ m, Start l P i ((g : Int) + 1) m → m + (rd_T34 l i).f1 ≤ c.f3 ∧ Fol σ (⟨(g : Int) + 1, (rd_T34 l i).f0, m, m + (rd_T34 l i).f1⟩ :: P) := by
  have hex : ∃ c ∈ σ, ∀ d ∈ P, d.f1 ≠ c.f1 := by
    refine Classical.byContradiction fun hno => ?_
    have := nodup_le (σ.map (·.f1)) (P.map (·.f1)) hσ.2.nodup fun x hx => by
      obtain ⟨c, hc, rfl⟩ := List.mem_map.1 hx
      refine Classical.byContradiction fun hn => hno ⟨c, hc, fun d hd e => hn ?_⟩
      exact List.mem_map.2 ⟨d, hd, e⟩
    rw [List.length_map, List.length_map, hσ.1] at this
    omega
  obtain ⟨c, hc, hp, hl⟩ := least_of σ (fun c => ∀ d ∈ P, d.f1 ≠ c.f1) hex
  have hF := hσ.2.1 c hc
  have hd := hF.dur ok
  have hF' := hF
  obtain ⟨hr, hg1, hg2, h0, he, hw⟩ := hF
  have hrun : (rd_T34 l (runAt l c.f1 : Nat)).f0 = c.f1 := tk_run hr
  have hg3 : ((c.f0 - 1).toNat : Int) = c.f0 - 1 := by omega
  refine ⟨runAt l c.f1, (c.f0 - 1).toNat, hr, by omega, fun a ha => by rw [hrun]; exact hp a ha, by rw [hg3]; exact hw, c, hc, fun m hm => ?_⟩
  rw [hg3] at hm ⊢
  have hmc : m ≤ c.f2 := by
    rcases hm.is with h | ⟨a, ha, hcf, rfl⟩
    · omega
    · obtain ⟨b, hb, hb1, hb0, hb3, hbl⟩ := hf a ha
      have hne : b.f1 ≠ c.f1 := by rw [hb1]; exact hp a ha
      have hs := (sep_of hσ.2.2 hb hc hne).2 (by
        rcases hcf with h | h
        · left; omega
        · right; rw [tk_eq hb1]; exact h)
      have := hbl c hc hp
      omega
  rw [hrun]
  have he' : c.f3 = c.f2 + (rd_T34 l (runAt l c.f1 : Nat)).f1 := he
  refine ⟨by omega, fun a ha => ?_⟩
  rcases List.mem_cons.1 ha with rfl | ha
  · exact ⟨c, hc, rfl, by show c.f0 = c.f0 - 1 + 1; omega, by show m + _ ≤ _; omega, fun d hd hpd => hl d hd fun x hx => hpd x (List.mem_cons_of_mem _ hx)⟩
  · obtain ⟨b, hb, h1, h2, h3, h4⟩ := hf a ha
    exact ⟨b, hb, h1, h2, h3, fun d hd hpd => h4 d hd fun x hx => hpd x (List.mem_cons_of_mem _ hx)⟩
/-- How long the shifts of a plan take together. -/
def busy : List S37 → Int
  | [] => 0
  | a :: P => (a.f3 - a.f2) + busy P
theorem busy_perm {P Q : List S37} (h : P.Perm Q) : busy P = busy Q := by
  induction h with
  | nil => rfl
  | cons x _ ih => rw [busy, busy, ih]
  | swap x y _ => rw [busy, busy, busy, busy]; omega
  | trans _ _ h1 h2 => rw [h1, h2]
theorem busy_le {l : List S34} {win : List Bool} (ok : OKL l win) : ∀ {P : List S37}, Good l win P → 0 ≤ busy P ∧ busy P ≤ 86400 * P.length
  | [], _ => by simp [busy]
  | a :: P, h => by
    have h1 := busy_le ok (P := P) ⟨fun b hb => h.1 b (List.mem_cons_of_mem _ hb), (List.pairwise_cons.1 h.2).2⟩
    have h2 := (h.1 a (List.mem_cons_self ..)).dur ok
    rw [busy, List.length_cons]
    omega
/-- Disjoint shifts take no longer than the time that they lie in. -/
theorem busy_dis : ∀ (n : Nat) (Q : List S37) (E : Int), Q.length = n → (∀ a ∈ Q, 0 ≤ a.f2 ∧ a.f2 < a.f3 ∧ a.f3 ≤ E) → Q.Pairwise (fun a b => a.f3 ≤ b.f2 ∨ b.f3 ≤ a.f2) → 0 ≤ E → busy Q ≤ E
  | 0, Q, E, hn, _, _, hE => by
    obtain rfl := List.eq_nil_of_length_eq_zero hn
    exact hE
  | n + 1, Q, E, hn, hb, hp, hE => by
    have hex : ∃ c ∈ Q, ∀ d ∈ Q, d.f2 ≤ c.f2 := by
      have hpos : 0 < Q.length := by omega
      clear hn hb hp hE
      induction Q with
      | nil => cases hpos
      | cons x xs ih =>
        cases xs with
        | nil => exact ⟨x, List.mem_cons_self .., fun d hd => by rw [List.mem_singleton] at hd; subst hd; omega⟩
        | cons y ys =>
          obtain ⟨c, hc, hl⟩ := ih (by simp)
          by_cases h : c.f2 ≤ x.f2
          · exact ⟨x, List.mem_cons_self .., fun d hd => by
              rcases List.mem_cons.1 hd with rfl | hd
              · omega
              · have := hl d hd; omega⟩
          · exact ⟨c, List.mem_cons_of_mem _ hc, fun d hd => by
              rcases List.mem_cons.1 hd with rfl | hd
              · omega
              · exact hl d hd⟩
    obtain ⟨c, hc, hl⟩ := hex
    obtain ⟨s, t, rfl⟩ := List.append_of_mem hc
    have pm : (s ++ c :: t).Perm (c :: (s ++ t)) := List.perm_middle
    have hp' := (pm.pairwise_iff (R := fun a b : S37 => a.f3 ≤ b.f2 ∨ b.f3 ≤ a.f2) fun h => h.symm).1 hp
    rw [List.pairwise_cons] at hp'
    have hcb := hb c hc
    have ih := busy_dis n (s ++ t) c.f2 (by simp at hn ⊢; omega) (fun a ha => by
      have hm : a ∈ s ++ c :: t := pm.mem_iff.2 (List.mem_cons_of_mem _ ha)
      have h1 := hb a hm
      have h2 := hl a hm
      have h3 := hp'.1 a ha
      omega) hp'.2 hcb.1
    rw [busy_perm pm, busy]
    omega
/-- With m groomers the shifts take at most m times the end. -/
theorem busy_groom {E : Int} (hE : 0 ≤ E) : ∀ (m : Nat) (Q : List S37), (∀ a ∈ Q, 0 ≤ a.f2 ∧ a.f2 < a.f3 ∧ a.f3 ≤ E ∧ 1 ≤ a.f0 ∧ a.f0 ≤ m) → Q.Pairwise (fun a b => a.f0 = b.f0 → a.f3 ≤ b.f2 ∨ b.f3 ≤ a.f2) → busy Q ≤ E * m
  | 0, Q, hb, _ => by
    cases Q with
    | nil => simp [busy]
    | cons a Q => have := hb a (List.mem_cons_self ..); omega
  | m + 1, Q, hb, hp => by
    have hs : ∀ R : List S37, busy R = busy (R.filter (fun a => a.f0 == (m + 1 : Int))) + busy (R.filter (fun a => !(a.f0 == (m + 1 : Int)))) := by
      intro R
      induction R with
      | nil => rfl
      | cons a R ih =>
        by_cases h : a.f0 = (m + 1 : Int)
        · rw [List.filter_cons_of_pos (by simpa using h), List.filter_cons_of_neg (by simpa using h), busy, busy, ih]; omega
        · rw [List.filter_cons_of_neg (by simpa using h), List.filter_cons_of_pos (by simpa using h), busy, busy, ih]; omega
    rw [hs Q]
    have h1 : busy (Q.filter (fun a => a.f0 == (m + 1 : Int))) ≤ E := by
      refine busy_dis _ _ E rfl (fun a ha => ?_) ?_ hE
      · have := hb a (List.mem_filter.1 ha).1; omega
      · have h := (hp.filter (fun a => a.f0 == (m + 1 : Int)))
        refine (List.Pairwise.and_mem.1 h).imp fun {a b} hab => hab.2.2 ?_
        have e1 := (List.mem_filter.1 hab.1).2
        have e2 := (List.mem_filter.1 hab.2.1).2
        simp at e1 e2
        omega
    have h2 := busy_groom hE m (Q.filter (fun a => !(a.f0 == (m + 1 : Int)))) (fun a ha => by
      have h1 := hb a (List.mem_filter.1 ha).1
      have h2 := (List.mem_filter.1 ha).2
      simp at h2
      omega) (hp.filter _)
    rw [Int.natCast_succ, Int.mul_add]
    omega
theorem Ev.is {α : Type} {o : Option α} {r : α} (h : o = some r) : Ev (fun _ => o) r := by subst h; exact Ev.now _
theorem mx_ge (a b : Int) : a ≤ mx a b ∧ b ≤ mx a b ∧ (mx a b = a ∨ mx a b = b) := by unfold mx; split <;> omega
/-- The end is the greatest To. -/
theorem endTo_spec (pl : List S37) : ∀ k, k ≤ pl.length → 0 < k → (∀ j : Nat, j < k → (rd_T37 pl j).f3 ≤ endTo pl k) ∧ ∃ j : Nat, j < k ∧ (rd_T37 pl j).f3 = endTo pl k
  | 0, _, h => by omega
  | k + 1, hk, _ => by
    rw [endTo]
    by_cases h0 : k = 0
    · subst h0
      rw [if_pos rfl]
      exact ⟨fun j hj => by obtain rfl : j = 0 := by omega
                            exact Int.le_refl _, 0, by omega, rfl⟩
    · rw [if_neg h0]
      obtain ⟨h1, j, hj, h2⟩ := endTo_spec pl k (by omega) (by omega)
      have hm := mx_ge (endTo pl k) (rd_T37 pl k).f3
      refine ⟨fun i hi => ?_, ?_⟩
      · by_cases e : i = k
        · subst e; exact hm.2.1
        · have := h1 i (by omega); omega
      · rcases hm.2.2 with e | e
        · exact ⟨j, by omega, by rw [e]; exact h2⟩
        · exact ⟨k, by omega, e.symm⟩
theorem end_spec {pl : List S37} (h : pl ≠ []) : (∀ a ∈ pl, a.f3 ≤ endV pl) ∧ ∃ a ∈ pl, a.f3 = endV pl := by
  obtain ⟨h1, j, hj, h2⟩ := endTo_spec pl pl.length (Nat.le_refl _) (List.length_pos_iff.2 h)
  refine ⟨fun a ha => ?_, rd_T37 pl j, ?_, h2⟩
  · obtain ⟨i, hi, rfl⟩ := List.getElem_of_mem ha
    have := h1 i hi
    rw [rd37_get hi] at this
    exact this
  · rw [rd37_get hj]; exact List.getElem_mem hj
theorem end_eq {pl : List S37} {e : Int} (h1 : ∀ a ∈ pl, a.f3 ≤ e) (h2 : ∃ a ∈ pl, a.f3 = e) : endV pl = e := by
  obtain ⟨a, ha, he⟩ := h2
  obtain ⟨h3, b, hb, h4⟩ := end_spec (List.ne_nil_of_mem ha)
  have := h3 a ha
  have := h1 b hb
  omega
theorem end_nonneg {l : List S34} {win : List Bool} (ok : OKL l win) {P : List S37} (h : Good l win P) : 0 ≤ endV P := by
  by_cases hn : P = []
  · subst hn; exact Int.le_refl _
  · obtain ⟨_, a, ha, he⟩ := end_spec hn
    have h1 := h.1 a ha
    have := h1.dur ok
    have := h1.2.2.2.1
    omega
def plc (plan : List S37) : List S37 := plan.filter (fun a => !(a.f0 == 0))
theorem rd37_cons (a : S37) (t : List S37) (i : Nat) : rd_T37 (a :: t) ((i + 1 : Nat) : Int) = rd_T37 t i := by simp [rd_T37]
theorem no_mem {p : S37 → Prop} : ∀ a ∈ ([] : List S37), p a := fun _ h => absurd h List.not_mem_nil
theorem plc_set : ∀ (plan : List S37) (i : Nat) (x : S37), i < plan.length → (rd_T37 plan i).f0 = 0 → x.f0 ≠ 0 → (plc (plan.set i x)).Perm (x :: plc plan)
  | [], _, _, h, _, _ => by simp at h
  | a :: t, 0, x, h, h0, hx => by
    have h0' : a.f0 = 0 := h0
    rw [List.set_cons_zero, plc, plc, List.filter_cons_of_pos (by simpa using hx), List.filter_cons_of_neg (by simp [h0'])]
  | a :: t, i + 1, x, h, h0, hx => by
    have ih := plc_set t i x (by simpa using h) (by rw [← rd37_cons a]; exact h0) hx
    rw [List.set_cons_succ]
    unfold plc at ih ⊢
    by_cases ha : a.f0 = 0
    · rw [List.filter_cons_of_neg (by simp [ha]), List.filter_cons_of_neg (by simp [ha])]
      exact ih
    · rw [List.filter_cons_of_pos (by simpa using ha), List.filter_cons_of_pos (by simpa using ha)]
      exact (ih.cons a).trans (List.Perm.swap ..)
theorem mem_plc {plan : List S37} {a : S37} : a ∈ plc plan ↔ ∃ j : Nat, j < plan.length ∧ rd_T37 plan j = a ∧ a.f0 ≠ 0 := by
  unfold plc
  rw [List.mem_filter]
  constructor
  · rintro ⟨h1, h2⟩
    obtain ⟨j, hj, rfl⟩ := List.getElem_of_mem h1
    exact ⟨j, hj, rd37_get hj, by simpa using h2⟩
  · rintro ⟨j, hj, rfl, h⟩
    exact ⟨by rw [rd37_get hj]; exact List.getElem_mem hj, by simpa using h⟩
structure InvP (l : List S34) (win : List Bool) (n : Nat) (en : Int) (plan : List S37) (free : List Int) : Prop where
  pl : plan.length = l.length
  fl : free.length = win.length
  good : Good l win (plc plan)
  idx : ∀ j : Nat, j < l.length → (rd_T37 plan j).f0 ≠ 0 → (rd_T37 plan j).f1 = (rd_T34 l j).f0
  cnt : (plc plan).length + n = l.length
  en0 : 0 ≤ en
  enle : ∀ a ∈ plc plan, a.f3 ≤ en
  enis : en = 0 ∨ ∃ a ∈ plc plan, a.f3 = en
  enb : en ≤ busy (plc plan)
  fr0 : ∀ g : Nat, g < win.length → 0 ≤ rd free g
  frle : ∀ g : Nat, g < win.length → ∀ a ∈ plc plan, a.f0 = (g : Int) + 1 → a.f3 ≤ rd free g
  fris : ∀ g : Nat, g < win.length → rd free g = 0 ∨ ∃ a ∈ plc plan, a.f0 = (g : Int) + 1 ∧ a.f3 = rd free g
theorem idx_inj {l : List S34} (hd : l.Pairwise (fun a b => a.f0 ≠ b.f0)) {i j : Nat} (hi : i < l.length) (hj : j < l.length) (h : (rd_T34 l i).f0 = (rd_T34 l j).f0) : i = j := by
  have h1 := run_idx hd hi
  rw [h, run_idx hd hj] at h1
  exact h1.symm
theorem InvP.out {l : List S34} {win : List Bool} (ok : OKL l win) {n : Nat} {en : Int} {plan : List S37} {free : List Int} (h : InvP l win n en plan free) {i : Nat} (hi : i < l.length) : (rd_T37 plan i).f0 = 0 ↔ ∀ a ∈ plc plan, a.f1 ≠ (rd_T34 l i).f0 := by
  constructor
  · intro h0 a ha e
    obtain ⟨j, hj, rfl, hn⟩ := mem_plc.1 ha
    rw [h.idx j (by rw [← h.pl]; exact hj) hn] at e
    obtain rfl := idx_inj ok.dist (by rw [← h.pl]; exact hj) hi e
    exact hn h0
  · intro hn
    refine Classical.byContradiction fun h0 => ?_
    exact hn _ (mem_plc.2 ⟨i, by rw [h.pl]; exact hi, rfl, h0⟩) (h.idx i hi h0)
theorem InvP.tk_at {l : List S34} {win : List Bool} (ok : OKL l win) {n : Nat} {en : Int} {plan : List S37} {free : List Int} (h : InvP l win n en plan free) {j : Nat} (hj : j < l.length) (hn : (rd_T37 plan j).f0 ≠ 0) : tk l (rd_T37 plan j) = rd_T34 l j := by
  unfold tk; rw [h.idx j hj hn, run_idx ok.dist hj]
theorem stTo_spec {l : List S34} {win : List Bool} (ok : OKL l win) {n : Nat} {en : Int} {plan : List S37} {free : List Int} (h : InvP l win n en plan free) (i : Nat) (t0 : Int) : ∀ k, k ≤ plan.length → t0 ≤ stTo l plan i t0 k ∧ (stTo l plan i t0 k = t0 ∨ ∃ a ∈ plc plan, clashT (tk l a) (rd_T34 l i) = true ∧ stTo l plan i t0 k = a.f3) ∧ ∀ j : Nat, j < k → (rd_T37 plan j).f0 ≠ 0 → clashT (tk l (rd_T37 plan j)) (rd_T34 l i) = true → (rd_T37 plan j).f3 ≤ stTo l plan i t0 k
  | 0, _ => ⟨Int.le_refl _, .inl rfl, fun j hj => by omega⟩
  | k + 1, hk => by
    obtain ⟨h1, h2, h3⟩ := stTo_spec ok h i t0 k (by omega)
    have hkl : k < l.length := by rw [← h.pl]; omega
    by_cases hc : (rd_T37 plan k).f0 ≠ 0 ∧ clashT (rd_T34 l i) (rd_T34 l k) = true
    · have ht := h.tk_at ok hkl hc.1
      have hm := mx_ge (stTo l plan i t0 k) (rd_T37 plan k).f3
      rw [stTo, if_pos hc]
      refine ⟨by omega, ?_, fun j hj hn hcl => ?_⟩
      · rcases hm.2.2 with e | e
        · rw [e]; exact h2
        · rw [e]; exact .inr ⟨_, mem_plc.2 ⟨k, by omega, rfl, hc.1⟩, by rw [ht, clash_comm]; exact hc.2, rfl⟩
      · by_cases e : j = k
        · subst e; exact hm.2.1
        · have := h3 j (by omega) hn hcl; omega
    · rw [stTo, if_neg hc]
      refine ⟨h1, h2, fun j hj hn hcl => ?_⟩
      by_cases e : j = k
      · subst e; exact absurd ⟨hn, by rw [h.tk_at ok hkl hn] at hcl; rw [clash_comm]; exact hcl⟩ hc
      · exact h3 j (by omega) hn hcl
theorem InvP.start {l : List S34} {win : List Bool} (ok : OKL l win) {n : Nat} {en : Int} {plan : List S37} {free : List Int} (h : InvP l win n en plan free) {i g : Nat} (hg : g < win.length) : Start l (plc plan) i ((g : Int) + 1) (stV l plan free i g) := by
  obtain ⟨h1, h2, h3⟩ := stTo_spec ok h i (rd free g) plan.length (Nat.le_refl _)
  have hf0 := h.fr0 g hg
  refine ⟨Int.le_trans hf0 h1, ?_, fun a ha hc => ?_⟩
  · rcases h2 with e | ⟨a, ha, hc, e⟩
    · rcases h.fris g hg with e0 | ⟨a, ha, hag, e0⟩
      · left; unfold stV; omega
      · exact .inr ⟨a, ha, .inl hag, by unfold stV; omega⟩
    · exact .inr ⟨a, ha, .inr hc, e⟩
  · rcases hc with e | e
    · exact Int.le_trans (h.frle g hg a ha e) h1
    · obtain ⟨j, hj, rfl, hn⟩ := mem_plc.1 ha
      exact h3 j hj hn e
theorem InvP.small {l : List S34} {win : List Bool} (ok : OKL l win) {n : Nat} {en : Int} {plan : List S37} {free : List Int} (h : InvP l win n en plan free) : en ≤ 518400 := by
  have h1 := h.enb
  have h2 := busy_le ok h.good
  have h3 := h.cnt
  have h4 := ok.len
  omega
theorem task_in {l : List S34} {win : List Bool} (ok : OKL l win) {i : Nat} (hi : i < l.length) : 1 ≤ (rd_T34 l i).f1 ∧ (rd_T34 l i).f1 ≤ 86400 := by
  have := ok.each (rd_T34 l i) (by rw [rdT_get hi]; exact List.getElem_mem hi)
  omega
theorem Start.top {l : List S34} {P : List S37} {i : Nat} {g m en : Int} (h : Start l P i g m) (h0 : 0 ≤ en) (hle : ∀ a ∈ P, a.f3 ≤ en) : m ≤ en := by
  rcases h.is with e | ⟨a, ha, _, e⟩
  · omega
  · rw [e]; exact hle a ha
/-- What the planner places. -/
theorem InvP.placed {l : List S34} {win : List Bool} (ok : OKL l win) {n : Nat} {en : Int} {plan : List S37} {free : List Int} (h : InvP l win n en plan free) {i g : Nat} (hi : i < l.length) (hg : g < win.length) : toV l plan free i g = stV l plan free i g + (rd_T34 l i).f1 ∧ place l plan free i g = ⟨(g : Int) + 1, (rd_T34 l i).f0, stV l plan free i g, stV l plan free i g + (rd_T34 l i).f1⟩ := by
  have hs := h.start ok (i := i) hg
  have h1 := hs.top h.en0 h.enle
  have h2 := h.small ok
  have h3 := hs.nonneg
  have h4 := task_in ok hi
  have h5 := ok.wlen
  have e1 : toV l plan free i g = stV l plan free i g + (rd_T34 l i).f1 := by unfold toV; exact wrap_id (by omega)
  refine ⟨e1, ?_⟩
  unfold place
  rw [e1, wrap_id (x := (g : Int) + 1) (by omega)]
theorem rd_set_same {xs : List Int} {g : Nat} {x : Int} (h : g < xs.length) : rd (xs.set g x) g = x := by simp [rd, List.getElem?_set, h]
theorem rd_set_other {xs : List Int} {g j : Nat} {x : Int} (h : j ≠ g) : rd (xs.set g x) j = rd xs j := by simp [rd, List.getElem?_set, Ne.symm h]
theorem InvP.next {l : List S34} {win : List Bool} (ok : OKL l win) {n : Nat} {en : Int} {plan : List S37} {free : List Int} (h : InvP l win (n + 1) en plan free) {i g : Nat} (hi : i < l.length) (hg : g < win.length) (h0 : (rd_T37 plan i).f0 = 0) (hw : ¬ ((rd_T34 l i).f2 = true ∧ rdOf false win g = false)) :
    InvP l win n (mx en (toV l plan free i g)) (plan.set i (place l plan free i g)) (free.set g (toV l plan free i g)) ∧ (plc (plan.set i (place l plan free i g))).Perm (⟨(g : Int) + 1, (rd_T34 l i).f0, stV l plan free i g, stV l plan free i g + (rd_T34 l i).f1⟩ :: plc plan) := by
  have hs := h.start ok (i := i) hg
  obtain ⟨e1, e2⟩ := h.placed ok hi hg
  have hd := task_in ok hi
  have hm := mx_ge en (toV l plan free i g)
  have hil : i < plan.length := by rw [h.pl]; exact hi
  have hpm := plc_set plan i (place l plan free i g) hil h0 (by rw [e2]; show (g : Int) + 1 ≠ 0; omega)
  rw [e2] at hpm
  rw [← e2] at hpm
  have hpm' := hpm
  rw [e2] at hpm' ⊢
  have hgood := h.good.add ok hi ((h.out ok hi).1 h0) (g := (g : Int) + 1) (m := stV l plan free i g) (by omega) (by
    rw [show ((g : Int) + 1 - 1) = (g : Int) by omega]
    by_cases e : rdOf false win (g : Int) = true
    · exact .inl e
    · refine .inr ?_
      by_cases e' : (rd_T34 l i).f2 = true
      · exact absurd ⟨e', by simpa using e⟩ hw
      · simpa using e') hs.nonneg hs.le
  have hen := hs.top h.en0 h.enle
  have mem : ∀ a, a ∈ plc (plan.set i ⟨(g : Int) + 1, (rd_T34 l i).f0, stV l plan free i g, stV l plan free i g + (rd_T34 l i).f1⟩) ↔ a = ⟨(g : Int) + 1, (rd_T34 l i).f0, stV l plan free i g, stV l plan free i g + (rd_T34 l i).f1⟩ ∨ a ∈ plc plan := fun a => by rw [hpm'.mem_iff, List.mem_cons]
  refine ⟨⟨by rw [List.length_set]; exact h.pl, by rw [List.length_set]; exact h.fl, hgood.perm hpm'.symm, fun j hj hn => ?_, ?_, ?_, fun a ha => ?_, ?_, ?_, fun j hj => ?_, fun j hj a ha hja => ?_, fun j hj => ?_⟩, hpm'⟩
  · by_cases e : j = i
    · subst e; rw [rd_set_at _ hil]
    · rw [rd_set_ne _ e] at hn ⊢; exact h.idx j hj hn
  · rw [hpm'.length_eq, List.length_cons]; have := h.cnt; omega
  · have := h.en0; omega
  · rcases (mem a).1 ha with rfl | ha
    · show stV l plan free i g + _ ≤ _; omega
    · have := h.enle a ha; omega
  · rcases hm.2.2 with e | e
    · rw [e]
      rcases h.enis with q | ⟨a, ha, q⟩
      · exact .inl q
      · exact .inr ⟨a, (mem a).2 (.inr ha), q⟩
    · rw [e]; exact .inr ⟨_, (mem _).2 (.inl rfl), e1.symm⟩
  · rw [busy_perm hpm', busy]
    have := h.enb
    show _ ≤ (stV l plan free i g + (rd_T34 l i).f1 - stV l plan free i g) + _
    omega
  · by_cases e : j = g
    · subst e; rw [rd_set_same (by rw [h.fl]; exact hg)]; have := hs.nonneg; omega
    · rw [rd_set_other e]; exact h.fr0 j hj
  · by_cases e : j = g
    · subst e; rw [rd_set_same (by rw [h.fl]; exact hg)]
      rcases (mem a).1 ha with rfl | ha
      · show stV l plan free i j + _ ≤ _; omega
      · have := hs.le a ha (.inl hja); omega
    · rw [rd_set_other e]
      rcases (mem a).1 ha with rfl | ha
      · exact absurd hja (by show ¬ ((g : Int) + 1 = j + 1); omega)
      · exact h.frle j hj a ha hja
  · by_cases e : j = g
    · subst e; rw [rd_set_same (by rw [h.fl]; exact hg)]
      exact .inr ⟨_, (mem _).2 (.inl rfl), rfl, e1.symm⟩
    · rw [rd_set_other e]
      rcases h.fris j hj with q | ⟨a, ha, q1, q2⟩
      · exact .inl q
      · exact .inr ⟨a, (mem a).2 (.inr ha), q1, q2⟩
/-- A whole plan, in the order of the tasks. -/
structure Full (l : List S34) (win : List Bool) (pl : List S37) : Prop where
  vp : VP l win pl
  idx : ∀ j : Nat, j < l.length → (rd_T37 pl j).f1 = (rd_T34 l j).f0
  top : endV pl ≤ busy pl
theorem InvP.full {l : List S34} {win : List Bool} (ok : OKL l win) (hl : 0 < l.length) {en : Int} {plan : List S37} {free : List Int} (h : InvP l win 0 en plan free) : Full l win plan ∧ endV plan = en := by
  have hall : ∀ a ∈ plan, (!(a.f0 == 0)) = true := by
    have := h.cnt
    rw [← h.pl] at this
    exact List.length_filter_eq_length_iff.1 (by unfold plc at this; rw [Nat.add_zero] at this; exact this)
  have hp : plc plan = plan := List.filter_eq_self.2 hall
  have he : endV plan = en := by
    have h1 := h.enle; have h2 := h.enis
    rw [hp] at h1 h2
    refine end_eq h1 ?_
    rcases h2 with q | q
    · have h3 := h.good
      rw [hp] at h3
      have hlt : 0 < plan.length := by rw [h.pl]; exact hl
      have hm : plan[0] ∈ plan := List.getElem_mem hlt
      have h4 := h3.1 _ hm
      have h5 := h4.dur ok
      have h6 := h1 _ hm
      have h7 := h4.2.2.2.1
      omega
    · exact q
  refine ⟨⟨⟨h.pl, by have := h.good; rw [hp] at this; exact this⟩, fun j hj => h.idx j hj ?_, ?_⟩, he⟩
  · have hlt : j < plan.length := by rw [h.pl]; exact hj
    have := hall _ (List.getElem_mem hlt)
    rw [rd37_get hlt]
    simpa using this
  · have := h.enb
    rw [hp] at this
    omega
def Res (l : List S34) (win : List Bool) (b : List S37 × Int) : Prop := b.1 = [] ∨ (Full l win b.1 ∧ endV b.1 = b.2)
theorem upTo_b {β : Type} {f : Nat → β → β} {Q : β → Prop} {n : Nat} (h : ∀ k b, k < n → Q b → Q (f k b)) : ∀ k b, k ≤ n → Q b → Q (upTo f k b)
  | 0, b, _, hb => hb
  | k + 1, b, hk, hb => h k _ (by omega) (upTo_b h k b (by omega) hb)
theorem upTo_hit {β : Type} {f : Nat → β → β} {Q R : β → Prop} {n : Nat} (hr : ∀ k b, k < n → R b → R (f k b)) (h : ∀ k b, k < n → R b → Q b → Q (f k b)) (i : Nat) (hi : i < n) (hit : ∀ b, R b → Q (f i b)) : ∀ k b, k ≤ n → i < k → R b → Q (upTo f k b)
  | 0, b, _, hik, hb => by omega
  | k + 1, b, hk, hik, hb => by
    have hR := upTo_b hr k b (by omega) hb
    by_cases e : i = k
    · subst e; exact hit _ hR
    · exact h k _ (by omega) hR (upTo_hit hr h i hi hit k b (by omega) (by omega) hb)
theorem srch_res {l : List S34} {win : List Bool} (ok : OKL l win) (hl : 0 < l.length) : ∀ (n : Nat) (en : Int) (plan : List S37) (free : List Int) (b : List S37 × Int), InvP l win n en plan free → Res l win b → Res l win (srch l win n en plan free b)
  | 0, en, plan, free, b, h, hb => by
    rw [srch]
    split
    · exact hb
    · exact .inr (h.full ok hl)
  | n + 1, en, plan, free, b, h, hb => by
    rw [srch]
    split
    · exact hb
    · refine upTo_b (n := l.length) (fun i b hi hb => ?_) _ _ (Nat.le_refl _) hb
      unfold iOf
      split
      · exact hb
      · rename_i h0
        refine upTo_b (n := win.length) (fun g b hg hb => ?_) _ _ (Nat.le_refl _) hb
        unfold gOf
        split
        · exact hb
        · rename_i hw
          exact srch_res ok hl n _ _ _ _ (h.next ok hi hg (Classical.byContradiction h0) hw).1 hb
def AtMost (X : Int) (b : List S37 × Int) : Prop := b.1 ≠ [] ∧ b.2 ≤ X
theorem not_cut {X en : Int} {b : List S37 × Int} (hb : AtMost X b) (hc : ¬ (b.1.isEmpty = false ∧ b.2 ≤ en)) : en ≤ X := by
  have h1 : b.1.isEmpty = false := by rw [List.isEmpty_eq_false_iff]; exact hb.1
  have h2 := hb.2
  have : ¬ b.2 ≤ en := fun h => hc ⟨h1, h⟩
  omega
theorem srch_le {l : List S34} {win : List Bool} {X : Int} (hl : 0 < l.length) : ∀ (n : Nat) (en : Int) (plan : List S37) (free : List Int) (b : List S37 × Int), plan.length = l.length → AtMost X b → AtMost X (srch l win n en plan free b)
  | 0, en, plan, free, b, hp, hb => by
    rw [srch]
    split
    · exact hb
    · rename_i hc
      exact ⟨List.ne_nil_of_length_pos (show 0 < plan.length from by rw [hp]; exact hl), not_cut hb hc⟩
  | n + 1, en, plan, free, b, hp, hb => by
    rw [srch]
    split
    · exact hb
    · refine upTo_b (n := l.length) (fun i b hi hb => ?_) _ _ (Nat.le_refl _) hb
      unfold iOf
      split
      · exact hb
      · refine upTo_b (n := win.length) (fun g b hg hb => ?_) _ _ (Nat.le_refl _) hb
        unfold gOf
        split
        · exact hb
        · exact srch_le hl n _ _ _ _ (by rw [List.length_set]; exact hp) hb
theorem Fol.perm {σ P Q : List S37} (h : Fol σ P) (p : P.Perm Q) : Fol σ Q := fun a ha => by
  obtain ⟨b, hb, h1, h2, h3, h4⟩ := h a (p.mem_iff.2 ha)
  exact ⟨b, hb, h1, h2, h3, fun c hc hd => h4 c hc fun d hd' => hd d (p.mem_iff.1 hd')⟩
theorem Fol.le {σ P : List S37} (h : Fol σ P) {a : S37} (ha : a ∈ P) : a.f3 ≤ endV σ := by
  obtain ⟨b, hb, _, _, h3, _⟩ := h a ha
  have := (end_spec (List.ne_nil_of_mem hb)).1 b hb
  omega
theorem srch_fol {l : List S34} {win : List Bool} (ok : OKL l win) (hl : 0 < l.length) {σ : List S37} (hσ : VP l win σ) : ∀ (n : Nat) (en : Int) (plan : List S37) (free : List Int) (b : List S37 × Int), InvP l win n en plan free → Fol σ (plc plan) → AtMost (endV σ) (srch l win n en plan free b) := by
  have hen : ∀ {n : Nat} {en : Int} {plan : List S37} {free : List Int}, InvP l win n en plan free → Fol σ (plc plan) → en ≤ endV σ := fun h hf => by
    rcases h.enis with q | ⟨a, ha, q⟩
    · have := end_nonneg ok hσ.2; omega
    · have := hf.le ha; omega
  intro n
  induction n with
  | zero =>
    intro en plan free b h hf
    have he := hen h hf
    rw [srch]
    split
    · rename_i hc; exact ⟨by rw [← List.isEmpty_eq_false_iff]; exact hc.1, by omega⟩
    · exact ⟨List.ne_nil_of_length_pos (by rw [h.pl]; exact hl), he⟩
  | succ n ih =>
    intro en plan free b h hf
    have he := hen h hf
    rw [srch]
    split
    · rename_i hc; exact ⟨by rw [← List.isEmpty_eq_false_iff]; exact hc.1, by omega⟩
    · obtain ⟨i, g, hi, hg, hout, hw, c, hc, hstep⟩ := hf.next ok hσ h.good (by have := h.cnt; omega)
      obtain ⟨hle, hfol⟩ := hstep _ (h.start ok hg)
      have h0 : (rd_T37 plan i).f0 = 0 := (h.out ok hi).2 hout
      have hkeep : ∀ (k : Nat) (b : List S37 × Int), AtMost (endV σ) b → ∀ j : Nat, AtMost (endV σ) (gOf l win (srch l win n) en plan free k j b) := fun k b hb j => by
        unfold gOf
        split
        · exact hb
        · exact srch_le hl n _ _ _ _ (by rw [List.length_set]; exact h.pl) hb
      refine upTo_hit (R := fun _ => True) (n := l.length) (fun _ _ _ _ => trivial) (fun k b _ _ hb => ?_) i hi (fun b _ => ?_) _ _ (Nat.le_refl _) hi trivial
      · unfold iOf
        split
        · exact hb
        · exact upTo_b (n := win.length) (fun j b _ hb => hkeep k b hb j) _ _ (Nat.le_refl _) hb
      · unfold iOf
        rw [if_neg (fun q => q h0)]
        refine upTo_hit (R := fun _ => True) (n := win.length) (fun _ _ _ _ => trivial) (fun j b _ _ hb => hkeep i b hb j) g hg (fun b _ => ?_) _ _ (Nat.le_refl _) hg trivial
        have hw' : ¬ ((rd_T34 l i).f2 = true ∧ rdOf false win g = false) := fun q => by
          rcases hw with w | w
          · rw [w] at q; exact absurd q.2 (by decide)
          · rw [w] at q; exact absurd q.1 (by decide)
        unfold gOf
        rw [if_neg hw']
        obtain ⟨hI, hP⟩ := h.next ok hi hg h0 hw'
        exact ih _ _ _ _ hI (hfol.perm hP.symm)
theorem some_groomer {l : List S34} {win : List Bool} (ok : OKL l win) {i : Nat} (hi : i < l.length) : ∃ g : Nat, g < win.length ∧ (rdOf false win (g : Int) = true ∨ (rd_T34 l i).f2 = false) := by
  by_cases h : (rd_T34 l i).f2 = true
  · have := (ok.each (rd_T34 l i) (by rw [rdT_get hi]; exact List.getElem_mem hi)).2.2.2.2.2 h
    obtain ⟨g, hg, e⟩ := List.getElem_of_mem this
    exact ⟨g, hg, .inl (by simp [rdOf, List.getElem?_eq_getElem hg, e])⟩
  · exact ⟨0, ok.wpos, .inr (by simpa using h)⟩
/-- There is a plan: one task after the other. -/
theorem seq_plan {l : List S34} {win : List Bool} (ok : OKL l win) : ∀ k, k ≤ l.length → ∃ P : List S37, P.length = k ∧ Good l win P ∧ (∀ a ∈ P, ∃ j : Nat, j < k ∧ a.f1 = (rd_T34 l j).f0) ∧ ∀ a ∈ P, a.f3 ≤ busy P
  | 0, _ => ⟨[], rfl, ⟨no_mem, List.Pairwise.nil⟩, no_mem, no_mem⟩
  | k + 1, hk => by
    obtain ⟨P, h1, h2, h3, h4⟩ := seq_plan ok k (by omega)
    obtain ⟨g, hg, hw⟩ := some_groomer ok (i := k) (by omega)
    have hd := task_in ok (i := k) (by omega)
    refine ⟨⟨(g : Int) + 1, (rd_T34 l k).f0, busy P, busy P + (rd_T34 l k).f1⟩ :: P, by rw [List.length_cons, h1], h2.add ok (by omega) (fun a ha e => ?_) (by omega) (by rw [show ((g : Int) + 1 - 1) = (g : Int) by omega]; exact hw) (busy_le ok h2).1 (fun a ha _ => h4 a ha), fun a ha => ?_, fun a ha => ?_⟩
    · obtain ⟨j, hj, e2⟩ := h3 a ha
      have := idx_inj ok.dist (i := j) (j := k) (by omega) (by omega) (by rw [← e2, e])
      omega
    · rcases List.mem_cons.1 ha with rfl | ha
      · exact ⟨k, by omega, rfl⟩
      · obtain ⟨j, hj, e⟩ := h3 a ha
        exact ⟨j, by omega, e⟩
    · rw [busy]
      rcases List.mem_cons.1 ha with rfl | ha
      · show busy P + _ ≤ (busy P + _ - busy P) + busy P; omega
      · have := h4 a ha
        show _ ≤ (busy P + (rd_T34 l k).f1 - busy P) + busy P
        omega
theorem some_plan {l : List S34} {win : List Bool} (ok : OKL l win) : ∃ σ, VP l win σ := by
  obtain ⟨P, h1, h2, _⟩ := seq_plan ok l.length (Nat.le_refl _)
  exact ⟨P, h1, h2⟩
theorem plc_made : ∀ n : Nat, plc (List.replicate n z37) = []
  | 0 => rfl
  | n + 1 => by rw [List.replicate_succ, plc, List.filter_cons_of_neg (by decide)]; exact plc_made n
theorem inv_start {l : List S34} {win : List Bool} : InvP l win l.length 0 (List.replicate l.length z37) (List.replicate win.length 0) := by
  have hz : ∀ g : Nat, g < win.length → rd (List.replicate win.length 0) g = 0 := fun g hg => by simp [rd, List.getElem?_replicate, hg]
  refine ⟨List.length_replicate .., List.length_replicate .., ?_, fun j hj hn => ?_, ?_, Int.le_refl _, ?_, .inl rfl, ?_, fun g hg => by rw [hz g hg]; decide, fun g hg => ?_, fun g hg => .inl (hz g hg)⟩
  · rw [plc_made]; exact ⟨no_mem, List.Pairwise.nil⟩
  · exact absurd (by rw [rd37_get (by simpa using hj), List.getElem_replicate]; rfl) hn
  · rw [plc_made]; simp
  · rw [plc_made]; exact no_mem
  · rw [plc_made]; exact Int.le_refl _
  · rw [plc_made]; exact no_mem
/-- The best plan is valid, in the order of the tasks, and no valid plan ends earlier. -/
theorem best_spec {l : List S34} {win : List Bool} (ok : OKL l win) : Full l win (bestV l win) ∧ ∀ σ, VP l win σ → endV (bestV l win) ≤ endV σ := by
  unfold bestV
  by_cases hl : l.length = 0
  · rw [if_pos hl]
    refine ⟨⟨⟨hl.symm, ⟨no_mem, List.Pairwise.nil⟩⟩, fun j hj => by omega, Int.le_refl _⟩, fun σ hσ => end_nonneg ok hσ.2⟩
  · rw [if_neg hl]
    have hpos : 0 < l.length := by omega
    have hr := srch_res ok hpos l.length 0 _ _ ([], 0) inv_start (.inl rfl)
    have hf : ∀ σ, VP l win σ → _ := fun σ hσ => srch_fol ok hpos hσ l.length 0 _ _ ([], 0) inv_start (by rw [plc_made]; exact no_mem)
    obtain ⟨σ, hσ⟩ := some_plan ok
    have hne := (hf σ hσ).1
    obtain ⟨h1, h2⟩ := hr.resolve_left hne
    exact ⟨h1, fun σ hσ => by rw [h2]; exact (hf σ hσ).2⟩
def rngB (t : S34) : Bool := decide (t.f0 < 1 ∨ t.f0 > 9999 ∨ t.f1 < 1 ∨ t.f1 > 86400 ∨ (t.f3.length : Int) > 6)
def dupB (l : List S34) (j : Nat) : Bool := (l.take j).any (hasRun (rd_T34 l j).f0)
def anyB (win : List Bool) : Bool := win.any id
def rLoop (l : List S34) (win : List Bool) : Nat → Nat → Int
  | 0, _ => 0
  | d + 1, j => if rngB (rd_T34 l j) = true then 2 else if dupB l j = true then 7 else if (rd_T34 l j).f2 = true ∧ anyB win = false then 13 else rLoop l win d (j + 1)
/-- The first error. -/
def rightV (l : List S34) (win : List Bool) : Int := if (l.length : Int) > 6 ∨ (win.length : Int) > 3 then 4 else if win.length = 0 then 8 else rLoop l win l.length 0
theorem rng_yes {t : S34} (h : t.f0 < 1 ∨ t.f0 > 9999 ∨ t.f1 < 1 ∨ t.f1 > 86400 ∨ (t.f3.length : Int) > 6) : true = rngB t := (decide_eq_true h).symm
theorem take_any {l : List S34} {x : Int} {k : Nat} (hk : k < l.length) : (l.take (k + 1)).any (hasRun x) = ((l.take k).any (hasRun x) || hasRun x (rd_T34 l k)) := by
  rw [List.take_succ_eq_append_getElem hk, List.any_append, rdT_get hk]
  simp
theorem ref_l2 (l : List S34) (any : Bool) (v : Int) (j : Nat) (hl : l.length ≤ 9223372036854775807) (hj : j < l.length) (hno : (rd_T34 l j).f2 = true ∧ any = false → v = 13) (hgo : ¬ ((rd_T34 l j).f2 = true ∧ any = false) → Ev (fun k => skiarearef47_Right.l1 k l any ((j + 1 : Nat) : Int)) v) : ∀ (d m : Nat), j - m = d → m ≤ j → (l.take m).any (hasRun (rd_T34 l j).f0) = false → Ev (fun k => skiarearef47_Right.l2 k l any j m) (if dupB l j = true then 7 else v)
  | 0, m, hd, hm, hf => by
    obtain rfl : m = j := by omega
    rw [if_neg (by unfold dupB; rw [hf]; decide)]
    have hn : wrap64 ((m : Int) + 1) = ((m + 1 : Nat) : Int) := wS m _ hl (by omega)
    refine Ev.step (fun k => by rw [skiarearef47_Right.l2, if_neg (by omega), if_pos (by omega), if_pos (by omega), hn]) ?_
    by_cases h3 : (rd_T34 l m).f2 = true
    · refine Ev.yes h3 ?_
      by_cases h4 : any = true
      · exact Ev.yes h4 (hgo fun c => by rw [h4] at c; simp at c)
      · rw [hno ⟨h3, by simpa using h4⟩]; exact Ev.no h4 (Ev.now _)
    · exact Ev.no h3 (hgo fun c => h3 c.1)
  | d + 1, m, hd, hm, hf => by
    have hn : wrap64 ((m : Int) + 1) = ((m + 1 : Nat) : Int) := wS m _ hl (by omega)
    refine Ev.step (fun k => by rw [skiarearef47_Right.l2, if_pos (by omega), if_pos (by omega), if_pos (by omega), if_pos (by omega), if_pos (by omega), hn]) ?_
    have hmt : (l.take (m + 1)).any (hasRun (rd_T34 l j).f0) = hasRun (rd_T34 l j).f0 (rd_T34 l m) := by rw [take_any (by omega), hf]; rfl
    by_cases he : (rd_T34 l m).f0 = (rd_T34 l j).f0
    · have hd : dupB l j = true := by
        unfold dupB
        rw [List.any_eq_true]
        refine ⟨rd_T34 l m, ?_, by simp [hasRun, he]⟩
        rw [rdT_get (show m < l.length by omega), List.mem_take_iff_getElem]
        exact ⟨m, by omega, rfl⟩
      rw [if_pos hd]
      exact Ev.yes he (Ev.now _)
    · exact Ev.no he (ref_l2 l any v j hl hj hno hgo d (m + 1) (by omega) (by omega) (by rw [hmt]; simpa [hasRun] using he))
theorem ref_l1 (l : List S34) (win : List Bool) (hl : l.length ≤ 9223372036854775807) : ∀ (d j : Nat), l.length - j = d → j ≤ l.length → Ev (fun k => skiarearef47_Right.l1 k l (anyB win) j) (rLoop l win d j)
  | 0, j, hd, hj => by
    obtain rfl : j = l.length := by omega
    rw [rLoop]
    exact Ev.step (fun k => by rw [skiarearef47_Right.l1, if_neg (by omega)]) (Ev.now _)
  | d + 1, j, hd, hj => by
    have ih := ref_l1 l win hl d (j + 1) (by omega) (by omega)
    have hj2 : ∀ b, b = rngB (rd_T34 l j) → Ev (fun k => skiarearef47_Right.j3 k l (anyB win) j b) (rLoop l win (d + 1) j) := by
      intro b hb
      rw [rLoop, ← hb]
      refine Ev.step (fun k => by rw [skiarearef47_Right.j3]) ?_
      by_cases h : b = true
      · rw [if_pos h]; exact Ev.yes h (Ev.now _)
      · rw [if_neg h]
        refine Ev.no h (ref_l2 l (anyB win) _ j hl (by omega) (fun c => if_pos c) (fun c => ?_) j 0 (by omega) (by omega) rfl)
        rw [if_neg c]; exact ih
    refine Ev.step (fun k => by rw [skiarearef47_Right.l1, if_pos (by omega), if_pos (by omega)]) ?_
    refine Ev.ite (fun h => hj2 _ (rng_yes (.inl h))) fun h1 => Ev.ite (fun h => hj2 _ (rng_yes (.inr (.inl h)))) fun h2 => Ev.ite (fun h => hj2 _ (rng_yes (.inr (.inr (.inl h))))) fun h3 => Ev.ite (fun h => hj2 _ (rng_yes (.inr (.inr (.inr (.inl h)))))) fun h4 => hj2 _ ?_
    unfold rngB
    rw [decide_eq_decide]
    exact ⟨fun h => .inr (.inr (.inr (.inr h))), fun h => h.resolve_left h1 |>.resolve_left h2 |>.resolve_left h3 |>.resolve_left h4⟩
theorem ref_l0 (l : List S34) (win : List Bool) (v : Int) (hw : win.length ≤ 9223372036854775807) (hv : Ev (fun k => skiarearef47_Right.l1 k l (anyB win) (0 : Nat)) v) : ∀ (d j : Nat), win.length - j = d → j ≤ win.length → Ev (fun k => skiarearef47_Right.l0 k l win ((win.take j).any id) j) v
  | 0, j, hd, hj => by
    obtain rfl : j = win.length := by omega
    rw [List.take_length]
    exact Ev.step (fun k => by rw [skiarearef47_Right.l0, if_neg (by omega)]; rfl) hv
  | d + 1, j, hd, hj => by
    have ih := ref_l0 l win v hw hv d (j + 1) (by omega) (by omega)
    have hlt : j < win.length := by omega
    have hr : rdOf false win j = win[j] := by simp [rdOf, List.getElem?_eq_getElem hlt]
    have hn : wrap64 ((j : Int) + 1) = ((j + 1 : Nat) : Int) := wS j _ hw (by omega)
    have ht : (win.take (j + 1)).any id = ((win.take j).any id || rdOf false win j) := by
      rw [List.take_succ_eq_append_getElem hlt, List.any_append, hr]; simp
    refine Ev.step (fun k => by rw [skiarearef47_Right.l0, if_pos (by omega), hn]) ?_
    rw [ht] at ih
    by_cases h : (win.take j).any id = true
    · rw [h] at ih; rw [h]; exact Ev.yes rfl ih
    · have h' : (win.take j).any id = false := by simpa using h
      rw [h'] at ih; rw [h']; exact Ev.no (by decide) (Ev.yes (by omega) ih)
theorem rright_ev (l : List S34) (win : List Bool) (hl : l.length ≤ 9223372036854775807) (hw : win.length ≤ 9223372036854775807) : Ev (fun k => skiarearef47_Right.f k l win) (rightV l win) := by
  have hj : ∀ b, (b = decide ((l.length : Int) > 6 ∨ (win.length : Int) > 3)) → Ev (fun k => skiarearef47_Right.j0 k l win b) (rightV l win) := by
    intro b hb
    refine Ev.step (fun k => by rw [skiarearef47_Right.j0]) ?_
    unfold rightV
    by_cases h : (l.length : Int) > 6 ∨ (win.length : Int) > 3
    · rw [if_pos h]; rw [decide_eq_true h] at hb; exact Ev.yes hb (Ev.now _)
    · rw [if_neg h]; rw [decide_eq_false h] at hb; subst hb
      refine Ev.no (by decide) ?_
      by_cases h2 : win.length = 0
      · rw [if_pos h2]; exact Ev.yes (by omega) (Ev.now _)
      · rw [if_neg h2]; exact Ev.no (by omega) (ref_l0 l win _ hw (ref_l1 l win hl l.length 0 (by omega) (by omega)) win.length 0 (by omega) (by omega))
  refine Ev.ite (fun h => hj _ (decide_eq_true (.inl h)).symm) fun h => hj _ ?_
  rw [decide_eq_decide]
  exact ⟨.inr, fun c => c.resolve_left h⟩
theorem rLoop_ok {l : List S34} {win : List Bool} : ∀ (d j : Nat), rLoop l win d j = 0 → ∀ i, j ≤ i → i < j + d → rngB (rd_T34 l i) = false ∧ dupB l i = false ∧ ((rd_T34 l i).f2 = true → anyB win = true)
  | 0, j, _, i, h1, h2 => by omega
  | d + 1, j, h, i, h1, h2 => by
    rw [rLoop] at h
    split at h
    · cases h
    · rename_i c1
      split at h
      · cases h
      · rename_i c2
        split at h
        · cases h
        · rename_i c3
          by_cases e : i = j
          · subst e
            exact ⟨by simpa using c1, by simpa using c2, fun q => by
              by_cases w : anyB win = true
              · exact w
              · exact absurd ⟨q, by simpa using w⟩ c3⟩
          · exact rLoop_ok d (j + 1) h i (by omega) (by omega)
theorem right_ok {l : List S34} {win : List Bool} (h : rightV l win = 0) : OKL l win := by
  unfold rightV at h
  split at h
  · cases h
  · rename_i c1
    split at h
    · cases h
    · rename_i c2
      have hi := fun i (hi : i < l.length) => rLoop_ok l.length 0 h i (Nat.zero_le _) (by omega)
      refine ⟨by omega, by omega, by omega, fun x hx => ?_, ?_⟩
      · obtain ⟨i, hil, rfl⟩ := List.getElem_of_mem hx
        obtain ⟨h1, h2, h3⟩ := hi i hil
        rw [rdT_get hil] at h1 h3
        unfold rngB at h1
        have h1' := of_decide_eq_false h1
        refine ⟨by omega, by omega, by omega, by omega, by omega, fun q => ?_⟩
        obtain ⟨w, hw, e⟩ := List.any_eq_true.1 (h3 q)
        have e' : w = true := e
        rw [← e']; exact hw
      · rw [List.pairwise_iff_getElem]
        intro i j hil hjl hij e
        obtain ⟨_, h2, _⟩ := hi j hjl
        unfold dupB at h2
        rw [List.any_eq_false] at h2
        refine h2 l[i] ?_ ?_
        · rw [List.mem_take_iff_getElem]; exact ⟨i, by omega, rfl⟩
        · rw [rdT_get hjl]; simpa [hasRun] using e
theorem fits_iff {l : List S34} {win : List Bool} (ok : OKL l win) {a : S37} (ha : a.f3 ≤ 9223372036854775807) : fitsB l win a = true ↔ Fit l win a := by
  unfold fitsB Fit tk
  simp only [Bool.and_eq_true, Bool.or_eq_true, decide_eq_true_eq, Bool.not_eq_true']
  constructor
  · rintro ⟨⟨h1, h2, h3, h4, h5⟩, h6, h7⟩
    rw [wrap_id (by omega)] at h6
    exact ⟨h1, h2, h3, h4, by omega, h7⟩
  · rintro ⟨h1, h2, h3, h4, h6, h7⟩
    have hd := ok.each _ (tk_mem h1)
    unfold tk at hd
    refine ⟨⟨h1, h2, h3, h4, by omega⟩, ?_, h7⟩
    rw [wrap_id (by omega)]
    omega
theorem bad_iff {l : List S34} {a b : S37} : badB l a b = false ↔ Sep l a b := by
  unfold badB overB Sep Cf tk
  simp only [Bool.or_eq_false_iff, Bool.and_eq_false_iff, beq_eq_false_iff_ne, decide_eq_false_iff_not, ne_eq]
  constructor
  · rintro ⟨h1, h2⟩
    refine ⟨h1, fun c => ?_⟩
    rcases h2 with (h | h) | ⟨h3, h4⟩
    · omega
    · omega
    · rcases c with c | c
      · exact absurd c h3
      · rw [h4] at c; cases c
  · rintro ⟨h1, h2⟩
    refine ⟨h1, ?_⟩
    by_cases c : a.f0 = b.f0 ∨ clashT (rd_T34 l (runAt l a.f1 : Nat)) (rd_T34 l (runAt l b.f1 : Nat)) = true
    · have := h2 c; left; omega
    · right
      exact ⟨fun q => c (.inl q), by
        by_cases w : clashT (rd_T34 l (runAt l a.f1 : Nat)) (rd_T34 l (runAt l b.f1 : Nat)) = true
        · exact absurd (.inr w) c
        · simpa using w⟩
theorem rvK_iff {l : List S34} {plan : List S37} {i : Nat} : ∀ k, rvK l plan i k = true ↔ ∀ j : Nat, j < k → Sep l (rd_T37 plan i) (rd_T37 plan j)
  | 0 => ⟨fun _ j hj => by omega, fun _ => rfl⟩
  | k + 1 => by
    rw [rvK, Bool.and_eq_true, rvK_iff k, Bool.not_eq_true', bad_iff]
    constructor
    · rintro ⟨h1, h2⟩ j hj
      by_cases e : j = k
      · subst e; exact h2
      · exact h1 j (by omega)
    · exact fun h => ⟨fun j hj => h j (by omega), h k (by omega)⟩
theorem rvTo_iff {l : List S34} {win : List Bool} {plan : List S37} : ∀ k, rvTo l win plan k = true ↔ ∀ i : Nat, i < k → fitsB l win (rd_T37 plan i) = true ∧ ∀ j : Nat, j < i → Sep l (rd_T37 plan i) (rd_T37 plan j)
  | 0 => ⟨fun _ j hj => by omega, fun _ => rfl⟩
  | k + 1 => by
    rw [rvTo, Bool.and_eq_true, Bool.and_eq_true, rvTo_iff k, rvK_iff]
    constructor
    · rintro ⟨h1, h2⟩ j hj
      by_cases e : j = k
      · subst e; exact h2
      · exact h1 j (by omega)
    · exact fun h => ⟨fun j hj => h j (by omega), h k (by omega)⟩
/-- What both Valids accept. -/
theorem rval_iff {l : List S34} {win : List Bool} (ok : OKL l win) {plan : List S37} (hp : ∀ a ∈ plan, a.f3 ≤ 9223372036854775807) : rvalV l win plan = true ↔ VP l win plan := by
  unfold rvalV VP Good
  rw [Bool.and_eq_true, beq_iff_eq, rvTo_iff, List.pairwise_iff_getElem]
  refine and_congr_right fun _ => ⟨fun h => ⟨fun a ha => ?_, fun i j hi hj hij => ?_⟩, fun h i hi => ⟨?_, fun j hj => ?_⟩⟩
  · obtain ⟨i, hi, rfl⟩ := List.getElem_of_mem ha
    have := (h i hi).1
    rw [rd37_get hi] at this
    exact (fits_iff ok (hp _ ha)).1 this
  · have := (h j hj).2 i hij
    rw [rd37_get hi, rd37_get hj] at this
    exact this.symm
  · rw [rd37_get hi]
    exact (fits_iff ok (hp _ (List.getElem_mem hi))).2 (h.1 _ (List.getElem_mem hi))
  · have hjl : j < plan.length := by omega
    rw [rd37_get hi, rd37_get hjl]
    exact (h.2 j i hjl hi hj).symm
theorem alone_t (l : List S34) (t a b c d : Int) : Ev (fun k => route_alone.j0 k l t true a b c d) (0, false) := Ev.step (fun k => by rw [route_alone.j0, if_pos rfl]) (Ev.now _)
theorem alone_f (l : List S34) (i : Nat) (hi : i < l.length) (a b c d : Int) : Ev (fun k => route_alone.j0 k l i false a b c d) ((i : Int), (decide (0 ≤ c ∧ c ≤ d) && decide (wrap64 (d - c) = (rd_T34 l i).f1))) := by
  refine Ev.step (fun k => by rw [route_alone.j0, if_neg (by decide)]) ?_
  by_cases h1 : 0 ≤ c
  · refine Ev.yes h1 ?_
    by_cases h2 : c ≤ d
    · refine Ev.yes h2 (Ev.yes (by omega) (Ev.yes (by omega) (Ev.val ?_)))
      rw [decide_eq_true (show 0 ≤ c ∧ c ≤ d from ⟨h1, h2⟩), Bool.true_and]
      rfl
    · refine Ev.no h2 (Ev.val ?_)
      rw [decide_eq_false (fun q => h2 q.2)]; rfl
  · refine Ev.no h1 (Ev.val ?_)
    rw [decide_eq_false (fun q => h1 q.1)]; rfl
theorem alone_ev (l : List S34) (win : List Bool) (hw : win.length ≤ 100) (a : S37) : ∃ i : Int, Ev (fun k => route_alone.f k l win a.f0 a.f1 a.f2 a.f3) (i, fitsB l win a) ∧ (fitsB l win a = true → i = runAt l a.f1) := by
  by_cases hr : runAt l a.f1 < l.length ∧ 1 ≤ a.f0 ∧ a.f0 ≤ win.length
  · have ht : taskV l a.f1 = (runAt l a.f1 : Int) := if_pos hr.1
    have hw1 : wrap64 (a.f0 - 1) = a.f0 - 1 := wrap_id (by omega)
    have hfit : ∀ x : Bool, (x = (rdOf false win (a.f0 - 1) || !(rd_T34 l (runAt l a.f1 : Nat)).f2)) → fitsB l win a = (x && (decide (0 ≤ a.f2 ∧ a.f2 ≤ a.f3) && decide (wrap64 (a.f3 - a.f2) = (rd_T34 l (runAt l a.f1 : Nat)).f1))) := by
      intro x hx
      unfold fitsB
      rw [← hx]
      by_cases h : 0 ≤ a.f2 ∧ a.f2 ≤ a.f3
      · rw [decide_eq_true h, decide_eq_true ⟨hr.1, hr.2.1, hr.2.2, h⟩, Bool.true_and, Bool.true_and, Bool.and_comm]
      · rw [decide_eq_false h, decide_eq_false (fun q => h q.2.2.2), Bool.false_and, Bool.false_and, Bool.and_false]
    have hgo : ∀ x : Bool, (x = (rdOf false win (a.f0 - 1) || !(rd_T34 l (runAt l a.f1 : Nat)).f2)) → ∃ i : Int, Ev (fun k => route_alone.j0 k l (runAt l a.f1 : Nat) (!x) a.f0 a.f1 a.f2 a.f3) (i, fitsB l win a) ∧ (fitsB l win a = true → i = runAt l a.f1) := by
      intro x hx
      rw [hfit x hx]
      cases x with
      | true => exact ⟨_, alone_f l _ hr.1 _ _ _ _, fun _ => rfl⟩
      | false => exact ⟨0, alone_t l _ _ _ _ _, fun h => by cases h⟩
    have pre : ∀ {i : Int} (x : Bool), (∀ f : Nat → Option (Int × Bool), Ev f (i, fitsB l win a) → Ev f (i, fitsB l win a)) := fun _ _ h => h
    by_cases h2 : (rd_T34 l (runAt l a.f1 : Nat)).f2 = true
    · obtain ⟨i, hE, hi⟩ := hgo (rdOf false win (a.f0 - 1)) (by rw [h2]; simp)
      refine ⟨i, Ev.bind (a := taskV l a.f1) (Ev.now _) ?_, hi⟩
      rw [ht, hw1]
      exact Ev.no (by omega) (Ev.no (by omega) (Ev.no (by omega) (Ev.yes (by omega) (Ev.yes (by omega) (Ev.yes h2 (Ev.yes (by omega) (Ev.yes (by omega) hE)))))))
    · obtain ⟨i, hE, hi⟩ := hgo true (by simp at h2; rw [h2]; simp)
      refine ⟨i, Ev.bind (a := taskV l a.f1) (Ev.now _) ?_, hi⟩
      rw [ht]
      exact Ev.no (by omega) (Ev.no (by omega) (Ev.no (by omega) (Ev.yes (by omega) (Ev.yes (by omega) (Ev.no h2 hE)))))
  · have hf : fitsB l win a = false := by
      unfold fitsB
      rw [decide_eq_false (fun q => hr ⟨q.1, q.2.1, q.2.2.1⟩)]
      rfl
    refine ⟨0, Ev.bind (a := taskV l a.f1) (Ev.now _) ?_, fun h => by rw [hf] at h; cases h⟩
    rw [hf]
    refine Ev.ite (fun _ => alone_t l _ _ _ _ _) fun c1 => Ev.ite (fun _ => alone_t l _ _ _ _ _) fun c2 => Ev.ite (fun _ => alone_t l _ _ _ _ _) fun c3 => absurd ⟨?_, by omega, by omega⟩ hr
    unfold taskV at c1
    split at c1
    · assumption
    · omega
theorem rd_take {xs : List S37} {j m : Nat} (h : m < j) : rd_T37 (xs.take j) m = rd_T37 xs m := by simp [rd_T37, List.getElem?_take, h]
theorem valid_l1 {l : List S34} {win : List Bool} (ok : OKL l win) {plan : List S37} {j : Nat} (hn : plan.length ≤ 9223372036854775807) (hj : j < plan.length) (hT : rvTo l win plan j = true) (hF : fitsB l win (rd_T37 plan j) = true)
    (hgo : rvTo l win plan (j + 1) = true → Ev (fun k => route_Valid.l0 k l win plan plan plan.length ((j + 1 : Nat) : Int)) (rvTo l win plan plan.length)) :
    ∀ (d m : Nat), j - m = d → m ≤ j → rvK l plan j m = true → Ev (fun k => route_Valid.l1 k l win plan (runAt l (rd_T37 plan j).f1 : Nat) plan plan.length j (plan.take j) j m (rd_T37 plan j).f0 (rd_T37 plan j).f1 (rd_T37 plan j).f2 (rd_T37 plan j).f3) (rvTo l win plan plan.length)
  | 0, m, hd, hm, hK => by
    obtain rfl : m = j := by omega
    have hw : wrap64 ((m : Int) + 1) = ((m + 1 : Nat) : Int) := wS m _ hn (by omega)
    refine Ev.step (fun k => by rw [route_Valid.l1, if_neg (by omega), hw]) (hgo ?_)
    rw [rvTo, hT, hF, hK]; rfl
  | d + 1, m, hd, hm, hK => by
    have hmj : m < j := by omega
    have hlen : ((plan.take j).length : Int) = j := by rw [List.length_take]; omega
    have hw : wrap64 ((m : Int) + 1) = ((m + 1 : Nat) : Int) := wS m _ hn (by omega)
    obtain ⟨i, hE, hi⟩ := alone_ev l win (by have := ok.wlen; omega) (rd_T37 plan m)
    have hfm := rv_in hT m hmj
    rw [hfm] at hE
    obtain rfl := hi hfm
    have hra := fits_in hF
    have hrb := fits_in hfm
    have hno : badB l (rd_T37 plan j) (rd_T37 plan m) = true → rvTo l win plan plan.length = false := fun hb => by
      have h1 := rvK_no (l := l) (plan := plan) (i := j) (k := m + 1) (by rw [rvK, hb]; simp) (j - (m + 1))
      rw [show m + 1 + (j - (m + 1)) = j by omega] at h1
      have := rvTo_no (l := l) (win := win) (plan := plan) (k := j + 1) (by rw [rvTo, h1]; simp) (plan.length - (j + 1))
      rw [show j + 1 + (plan.length - (j + 1)) = plan.length by omega] at this
      exact this
    have ih := valid_l1 ok hn hj hT hF hgo d (m + 1) (by omega) (by omega)
    have hj2 : ∀ b, b = badB l (rd_T37 plan j) (rd_T37 plan m) → Ev (fun k => route_Valid.j2 k l win plan (runAt l (rd_T37 plan j).f1 : Nat) plan plan.length j (plan.take j) j m b (rd_T37 plan j).f0 (rd_T37 plan j).f1 (rd_T37 plan j).f2 (rd_T37 plan j).f3) (rvTo l win plan plan.length) := by
      intro b hb
      refine Ev.step (fun k => by rw [route_Valid.j2, hw]) ?_
      by_cases h : b = true
      · rw [hno (by rw [← hb]; exact h)]; exact Ev.yes h (Ev.now _)
      · exact Ev.no h (ih (by rw [rvK, hK, ← hb]; simpa using h))
    refine Ev.step (fun k => by rw [route_Valid.l1, if_pos (by omega), if_pos (by omega), if_pos (by omega), rd_take hmj]) (Ev.bind hE ?_)
    by_cases h1 : (rd_T37 plan j).f1 = (rd_T37 plan m).f1
    · have e : ((runAt l (rd_T37 plan j).f1 : Nat) : Int) = (runAt l (rd_T37 plan m).f1 : Nat) := by rw [h1]
      exact Ev.yes e (hj2 true (by unfold badB; rw [h1]; simp))
    · have e : ¬ ((runAt l (rd_T37 plan j).f1 : Nat) : Int) = (runAt l (rd_T37 plan m).f1 : Nat) := fun q => by
        have q' : runAt l (rd_T37 plan j).f1 = runAt l (rd_T37 plan m).f1 := by omega
        have e1 := beq_iff_eq.1 (run_here hra)
        have e2 := beq_iff_eq.1 (run_here hrb)
        rw [q'] at e1
        exact h1 (e1.symm.trans e2)
      refine Ev.no e ?_
      have e1 : ((rd_T37 plan j).f1 == (rd_T37 plan m).f1) = false := by simpa using h1
      by_cases o1 : (rd_T37 plan j).f2 < (rd_T37 plan m).f3
      · refine Ev.yes o1 ?_
        by_cases o2 : (rd_T37 plan m).f2 < (rd_T37 plan j).f3
        · refine Ev.yes o2 ?_
          by_cases g : (rd_T37 plan j).f0 = (rd_T37 plan m).f0
          · exact Ev.yes g (hj2 true (by unfold badB overB; rw [e1, decide_eq_true o1, decide_eq_true o2, g]; simp))
          · have g1 : ((rd_T37 plan j).f0 == (rd_T37 plan m).f0) = false := by simpa using g
            have hla : ∀ {i : Nat}, i < l.length → (rd_T34 l i).f3.length ≤ 9223372036854775807 := fun {i} hi => by
              have := ok.each (rd_T34 l i) (by rw [rdT_get hi]; exact List.getElem_mem hi)
              omega
            refine Ev.no g (Ev.yes (by omega) (Ev.yes (by omega) (Ev.yes (by show (0 : Int) ≤ ((runAt l (rd_T37 plan m).f1 : Nat) : Int); omega) (Ev.yes (by show ((runAt l (rd_T37 plan m).f1 : Nat) : Int) < l.length; omega) (Ev.bind (clash_ev _ _ (hla hra) (hla hrb)) (hj2 _ ?_))))))
            unfold badB overB
            rw [e1, decide_eq_true o1, decide_eq_true o2, g1]
            simp
        · exact Ev.no o2 (hj2 false (by unfold badB overB; rw [e1, decide_eq_false o2]; simp))
      · exact Ev.no o1 (hj2 false (by unfold badB overB; rw [e1, decide_eq_false o1]; simp))
theorem valid_l0 {l : List S34} {win : List Bool} (ok : OKL l win) {plan : List S37} (hn : plan.length ≤ 9223372036854775807) : ∀ (d j : Nat), plan.length - j = d → j ≤ plan.length → rvTo l win plan j = true → Ev (fun k => route_Valid.l0 k l win plan plan plan.length j) (rvTo l win plan plan.length)
  | 0, j, hd, hj, hT => by
    obtain rfl : j = plan.length := by omega
    rw [hT]
    exact Ev.step (fun k => by rw [route_Valid.l0, if_neg (by omega)]) (Ev.now _)
  | d + 1, j, hd, hj, hT => by
    have hlt : j < plan.length := by omega
    have ih := valid_l0 ok hn d (j + 1) (by omega) (by omega)
    obtain ⟨i, hE, hi⟩ := alone_ev l win (by have := ok.wlen; omega) (rd_T37 plan j)
    refine Ev.step (fun k => by rw [route_Valid.l0, if_pos (by omega), if_pos (by omega), if_pos (by omega)]) (Ev.bind hE ?_)
    by_cases hF : fitsB l win (rd_T37 plan j) = true
    · obtain rfl := hi hF
      refine Ev.yes hF (Ev.yes (by omega) (Ev.bind (a := plan.take j) (Ev.now _) ?_))
      have hlen : ((plan.take j).length : Int) = j := by rw [List.length_take]; omega
      rw [hlen]
      exact valid_l1 ok hn hlt hT hF ih j 0 (by omega) (by omega) rfl
    · have hno : rvTo l win plan plan.length = false := by
        have hF' : fitsB l win (rd_T37 plan j) = false := by simpa using hF
        have := rvTo_no (l := l) (win := win) (plan := plan) (k := j + 1) (by rw [rvTo, hF']; simp) (plan.length - (j + 1))
        rw [show j + 1 + (plan.length - (j + 1)) = plan.length by omega] at this
        exact this
      rw [hno]
      exact Ev.no hF (Ev.now _)
theorem valid_ev {l : List S34} {win : List Bool} (ok : OKL l win) {plan : List S37} (hn : plan.length ≤ 9223372036854775807) : Ev (fun k => route_Valid.f k l win plan) (rvalV l win plan) := by
  unfold rvalV
  by_cases h : plan.length = l.length
  · rw [show (plan.length == l.length) = true by simpa using h, Bool.true_and]
    exact Ev.yes (by omega) (valid_l0 ok hn plan.length 0 (by omega) (by omega) rfl)
  · rw [show (plan.length == l.length) = false by simpa using h, Bool.false_and]
    exact Ev.no (by omega) (Ev.now _)
theorem best_f {l : List S34} {win : List Bool} (ok : OKL l win) : route_Best.f l win = some (bestV l win) := if_pos ⟨by have := ok.len; omega, by have := ok.wlen; omega⟩
theorem least_f {l : List S34} {win : List Bool} (ok : OKL l win) : route_Least.f l win = some (endV (bestV l win)) := by
  unfold route_Least.f
  rw [best_f ok]
  rfl
theorem full_end {l : List S34} {win : List Bool} (ok : OKL l win) {pl : List S37} (h : Full l win pl) : endV pl ≤ 518400 := by
  have h1 := busy_le ok h.vp.2
  have h2 := h.top
  have h3 := h.vp.1
  have h4 := ok.len
  omega
theorem full_small {l : List S34} {win : List Bool} (ok : OKL l win) {pl : List S37} (h : Full l win pl) : ∀ a ∈ pl, a.f3 ≤ 9223372036854775807 := fun a ha => by
  have h1 := full_end ok h
  have h2 := (end_spec (List.ne_nil_of_mem ha)).1 a ha
  omega
theorem best_valid {l : List S34} {win : List Bool} (ok : OKL l win) : rvalV l win (bestV l win) = true := (rval_iff ok (full_small ok (best_spec ok).1)).2 (best_spec ok).1.vp
theorem good_end {pl : List S37} (h : GoodL (fun x => good37 x) pl) : ∀ a ∈ pl, a.f3 ≤ 9223372036854775807 := fun a ha => (h.2 a ha).2.2.2.2
end Go.Proofs.Yticfgecicmgpeaa.Pure
