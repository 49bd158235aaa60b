/- The law GroupFewer of the printed functions: without one of the persons the cost is not greater, and not less by more than the price of the person. Condition: lists that a machine can hold. -/
import Derived.Test.YtdklkjgcnibbgaaAx34
import Derived.Test.YtdklkjgcnibbgaaOpen
import Derived.Test.YtdklkjgcnibbgaaGPa
import Derived.Test.YtdklkjgcnibbgaaGPc
namespace Go.Proofs.Ytdklkjgcnibbgaa.Pure
open Go.RowKit Go.Proofs.Ytdklkjgcnibbgaa.A Go.Proofs.YtdklkjgcnibbgaaW.PrintWords Go.Proofs.YtdklkjgcnibbgaaW.PrintLast
set_option linter.unusedVariables false
/-- The first j without p. -/
def fw (xs : List Int) (p : Nat) : Nat → List Int
  | 0 => []
  | j + 1 => if j = p then fw xs p j else fw xs p j ++ [rd xs j]
theorem fw_len (xs : List Int) (p : Nat) : ∀ j, (fw xs p j).length = if j ≤ p then j else j - 1
  | 0 => by rw [fw, if_pos (Nat.zero_le _)]; rfl
  | j + 1 => by
    have ih := fw_len xs p j
    rw [fw]
    by_cases e : j = p
    · rw [if_pos e, ih, if_pos (by omega), if_neg (by omega)]; rfl
    · rw [if_neg e, List.length_append, List.length_singleton, ih]
      by_cases h : j ≤ p
      · rw [if_pos h, if_pos (by omega)]
      · rw [if_neg h, if_neg (by omega)]; omega
theorem fw_rd (xs : List Int) (p : Nat) : ∀ (j q : Nat), q < (fw xs p j).length → rd (fw xs p j) q = rd xs (up p q : Nat)
  | 0, q, h => by simp [fw] at h
  | j + 1, q, h => by
    have hl := fw_len xs p j
    rw [fw] at h ⊢
    by_cases e : j = p
    · rw [if_pos e] at h ⊢; exact fw_rd xs p j q h
    · rw [if_neg e] at h ⊢
      rw [List.length_append, List.length_singleton] at h
      by_cases e2 : q = (fw xs p j).length
      · subst e2
        rw [rd_app_at, hl]
        unfold up
        by_cases h3 : j ≤ p
        · rw [if_pos h3, if_pos (by omega)]
        · rw [if_neg h3, if_neg (by omega), show j - 1 + 1 = j by omega]
      · rw [rd_app_lt (by omega)]
        exact fw_rd xs p j q (by omega)
theorem fewer_l0 {ages prices : List Int} {l : List S45} (ok : OKG ages prices l) (hA : ∀ j : Nat, j < ages.length → 0 ≤ rd ages j ∧ rd ages j ≤ 120) {p : Nat} (hp : p < ages.length)
    (fin : Ev (fun k => skiarealaw24_GroupFewer.l0 k p (ages.length : Nat) ages prices l (fw ages p ages.length) (fw prices p ages.length) l) true) : ∀ (d j : Nat), ages.length - j = d → j ≤ ages.length → Ev (fun k => skiarealaw24_GroupFewer.l0 k p j ages prices l (fw ages p j) (fw prices p j) l) true
  | 0, j, hd, hj => by
    obtain rfl : j = ages.length := by omega
    exact fin
  | d + 1, j, hd, hj => by
    have h8 := ok.len
    have hs := ok.same
    have hjl : j < ages.length := by omega
    have ih := fewer_l0 ok hA hp fin d (j + 1) (by omega) (by omega)
    have HN := Aside0.mk (wS j ages.length (by omega) hjl)
    have g0 : (0 : Int) ≤ j := Int.natCast_nonneg j
    have g1 : (j : Int) < ages.length := Int.ofNat_lt.2 hjl
    have g2 : (j : Int) < prices.length := by rw [← hs]; exact g1
    have l1 := fw_len ages p j
    have l2 := fw_len prices p j
    have g3 : (fw ages p j).length < 17592186044416 := by rw [l1]; split <;> omega
    have g4 : (fw prices p j).length < 17592186044416 := by rw [l2]; split <;> omega
    by_cases e : j = p
    · rw [fw, fw, if_pos e, if_pos e] at ih
      have e2 : (j : Int) = (p : Int) := by omega
      exact Ev.step (fun k => by rw [skiarealaw24_GroupFewer.l0, if_pos g1, if_pos e2, HN.out]) ih
    · rw [fw, fw, if_neg e, if_neg e] at ih
      have e2 : ¬ ((j : Int) = (p : Int)) := by omega
      exact Ev.step (fun k => by rw [skiarealaw24_GroupFewer.l0, if_pos g1, if_neg e2, if_pos g0, if_pos g3, if_pos g2, if_pos g4, HN.out]) ih
theorem GroupFewer : ∀ (l0_0 : List Int) (l0_1 : List Int) (l0_2 : List S45) (a1 : Int), GoodL (fun x => InI64 x) l0_0 → GoodL (fun x => InI64 x) l0_1 → GoodL (fun x => good45 x) l0_2 → InI64 a1 → ∃ k, skiarealaw24_GroupFewer.f k l0_0 l0_1 l0_2 a1 = some true := by
  intro a b l pI ha hb hl _
  have hj : ∀ x : Bool, x = true ∨ (rightG a b l = 0 ∧ 0 ≤ pI ∧ pI < a.length) → Ev (fun k => skiarealaw24_GroupFewer.j0 k pI x a b l) true := by
    intro x hx
    refine Ev.step (fun k => by rw [skiarealaw24_GroupFewer.j0]) (Ev.ite (fun _ => Ev.now _) fun h => ?_)
    obtain ⟨hr, hp0, hpn⟩ := hx.resolve_left h
    obtain ⟨p, rfl⟩ : ∃ p : Nat, pI = p := ⟨pI.toNat, (Int.toNat_of_nonneg hp0).symm⟩
    have hp : p < a.length := by omega
    have ok := right_okg hr
    have hA := right_ages hr
    have h8 := ok.len
    have hs := ok.same
    obtain ⟨n, hn⟩ : ∃ n, a.length = n + 1 := ⟨a.length - 1, by omega⟩
    have la : (fw a p a.length).length = n := by rw [fw_len, if_neg (by omega)]; omega
    have lb : (fw b p a.length).length = n := by rw [fw_len, if_neg (by omega)]; omega
    have ra : ∀ q, q < n → rd (fw a p a.length) q = rd a (up p q : Nat) := fun q hq => fw_rd a p _ q (by omega)
    have rb : ∀ q, q < n → rd (fw b p a.length) q = rd b (up p q : Nat) := fun q hq => fw_rd b p _ q (by omega)
    have hup : ∀ q, q < n → up p q < a.length := fun q hq => by unfold up; split <;> omega
    have ok2 : OKG (fw a p a.length) (fw b p a.length) l := ⟨by omega, ok.olen, by omega, fun j hj => by rw [rb j (by omega)]; exact ok.pr _ (hup j (by omega)), ok.off, ok.dist⟩
    have hr2 := right_of ok2 fun j hj => by rw [ra j (by omega)]; exact hA _ (hup j (by omega))
    obtain ⟨L, c, hE, O⟩ := best_out hr
    obtain ⟨L2, c2, hE2, O2⟩ := best_out hr2
    have hle : c2 ≤ c := by
      obtain ⟨c', k', h1, h2⟩ := O.best.1.fewer hn la (by omega) ra rb (fun q hq => (ok.pr q (by omega)).1) (fun o ho => by have := ok.off o ho; omega)
      have := O2.best.2 _ _ h2
      omega
    have hle2 : c ≤ c2 + rd b p := by
      have := O.best.2 _ _ (O2.best.1.plus hn la (by omega) ra rb)
      omega
    have hpr := ok.pr p hp
    have hc2 := O2.cpos
    have hw : wrap64 (c2 + rd b p) = c2 + rd b p := wrap_id (by omega)
    have HW := Aside0.mk hw
    clear hw
    have g0 : (0 : Int) ≤ p := Int.natCast_nonneg p
    have g1 : (p : Int) < b.length := by rw [← hs]; exact Int.ofNat_lt.2 hp
    refine fewer_l0 ok hA hp (Ev.step (fun k => by rw [skiarealaw24_GroupFewer.l0, if_neg (Int.lt_irrefl _)]) (Ev.bind (law_best_ev hE) (Ev.bind (law_best_ev hE2) (Ev.yes rfl (Ev.yes rfl (Ev.yes hle (Ev.yes g0 (Ev.yes g1 ?_)))))))) a.length 0 (by omega) (Nat.zero_le _)
    show Ev (fun _ => some (decide (c ≤ wrap64 (c2 + rd b p)))) true
    rw [HW.out, decide_eq_true hle2]
    exact Ev.now _
  refine Ev.rounds (Ev.bind alive_ev (Ev.yes rfl (Ev.bind (right_ev a b l ha.1 hl.1) (Ev.ite (fun h => Ev.ite (fun _ => hj _ (.inl rfl)) fun h0 => hj _ ?_) fun _ => hj _ (.inl rfl)))))
  by_cases h1 : pI ≥ (a.length : Int)
  · exact .inl (decide_eq_true h1)
  · exact .inr ⟨beq_iff_eq.1 h, by omega, by omega⟩
end Go.Proofs.Ytdklkjgcnibbgaa.Pure
