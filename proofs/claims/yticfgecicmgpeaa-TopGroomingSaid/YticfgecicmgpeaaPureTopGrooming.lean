/- The law TopGrooming of the printed functions: the groomers' plan is valid and no valid plan ends earlier; the least end has its bounds. Condition: lists that a machine can hold. -/
import Derived.Test.YticfgecicmgpeaaAx5
import Derived.Test.YticfgecicmgpeaaAx7
import Derived.Test.YticfgecicmgpeaaAx8
import Derived.Test.YticfgecicmgpeaaAx23
import Derived.Test.YticfgecicmgpeaaAx29
import Derived.Test.YticfgecicmgpeaaTopPlan
namespace Go.Proofs.Yticfgecicmgpeaa.Pure
open Go.RowKit Go.Proofs.Yticfgecicmgpeaa.A Go.Proofs.YticfgecicmgpeaaW.PrintWords Go.Proofs.YticfgecicmgpeaaW.PrintLast Go.Proofs.YticfgecicmgpeaaW.PrintMore
set_option linter.unusedVariables false
set_option linter.unusedSimpArgs false
theorem busy_snoc (P : List S37) (x : S37) : busy (P ++ [x]) = (x.f3 - x.f2) + busy P := by rw [busy_perm (List.perm_append_singleton x P), busy]
/-- The times of the first k tasks. -/
def durs (l : List S34) : Nat → Int
  | 0 => 0
  | k + 1 => durs l k + (rd_T34 l k).f1
theorem durs_in {l : List S34} {win : List Bool} (ok : OKL l win) : ∀ k, k ≤ l.length → 0 ≤ durs l k ∧ durs l k ≤ 86400 * k
  | 0, _ => by simp [durs]
  | k + 1, hk => by
    have h1 := durs_in ok k (by omega)
    have h2 := task_in ok (i := k) (by omega)
    rw [durs]; omega
theorem full_busy {l : List S34} {win : List Bool} (ok : OKL l win) {pl : List S37} (h : Full l win pl) : busy pl = durs l l.length := by
  have hk : ∀ k, k ≤ l.length → busy (pl.take k) = durs l k := by
    intro k
    induction k with
    | zero => intro _; rfl
    | succ k ih =>
      intro hk
      have hlt : k < pl.length := by rw [h.vp.1]; omega
      have hF := h.vp.2.1 _ (List.getElem_mem hlt)
      have he := hF.2.2.2.2.1
      have hi := h.idx k (by omega)
      rw [rd37_get hlt] at hi
      have ht : tk l pl[k] = rd_T34 l k := by unfold tk; rw [hi, run_idx ok.dist (by omega)]
      rw [ht] at he
      rw [List.take_succ_eq_append_getElem hlt, busy_snoc, ih (by omega), durs]
      omega
  have := hk l.length (Nat.le_refl _)
  rw [← h.vp.1, List.take_length] at this
  rw [this, h.vp.1]
theorem full_shift {l : List S34} {win : List Bool} (ok : OKL l win) {pl : List S37} (h : Full l win pl) {j : Nat} (hj : j < l.length) : ∃ a ∈ pl, 0 ≤ a.f2 ∧ a.f3 = a.f2 + (rd_T34 l j).f1 := by
  have hlt : j < pl.length := by rw [h.vp.1]; exact hj
  have hF := h.vp.2.1 _ (List.getElem_mem hlt)
  have hi := h.idx j hj
  rw [rd37_get hlt] at hi
  have ht : tk l pl[j] = rd_T34 l j := by unfold tk; rw [hi, run_idx ok.dist hj]
  exact ⟨_, List.getElem_mem hlt, hF.2.2.2.1, by rw [← ht]; exact hF.2.2.2.2.1⟩
theorem dur_le {l : List S34} {win : List Bool} (ok : OKL l win) {pl : List S37} (h : Full l win pl) {j : Nat} (hj : j < l.length) : (rd_T34 l j).f1 ≤ endV pl := by
  obtain ⟨a, ha, h1, h2⟩ := full_shift ok h hj
  have := (end_spec (List.ne_nil_of_mem ha)).1 a ha
  omega
theorem full_groom {l : List S34} {win : List Bool} (ok : OKL l win) {pl : List S37} (h : Full l win pl) : durs l l.length ≤ endV pl * win.length := by
  rw [← full_busy ok h]
  refine busy_groom (end_nonneg ok h.vp.2) win.length pl (fun a ha => ?_) (h.vp.2.2.imp fun {a b} q e => q.2 (.inl e))
  have h1 := h.vp.2.1 a ha
  have h2 := h1.dur ok
  exact ⟨h1.2.2.2.1, by omega, (end_spec (List.ne_nil_of_mem ha)).1 a ha, h1.2.1, h1.2.2.1⟩
theorem plans_k : skiareatop_plansAlive.f 100 = some true := by decide +kernel
theorem plans_ev : Ev (fun k => skiareatop_plansAlive.f k) true := Ev.of skiareatop_plansAlive.mono plans_k
theorem top_l0 {l : List S34} {win : List Bool} (ok : OKL l win) {pl : List S37} (hp : GoodL (fun x => good37 x) pl) : ∀ (d j : Nat), l.length - j = d → j ≤ l.length → Ev (fun k => skiareatop_TopGrooming.l0 k l win pl (endV (bestV l win)) (durs l j) j) true
  | 0, j, hd, hj => by
    obtain rfl : j = l.length := by omega
    have hF := (best_spec ok).1
    have hEnd := full_end ok hF
    have hE0 := end_nonneg ok hF.vp.2
    have hw3 := ok.wlen
    have hg := full_groom ok hF
    have hmul : endV (bestV l win) * (win.length : Int) ≤ 518400 * 3 := Int.mul_le_mul hEnd (by omega) (by omega) (by decide)
    have hmul0 : 0 ≤ endV (bestV l win) * (win.length : Int) := Int.mul_nonneg hE0 (by omega)
    have hw : wrap64 (endV (bestV l win) * (win.length : Int)) = endV (bestV l win) * (win.length : Int) := wrap_id (by omega)
    have hle : durs l l.length ≤ wrap64 (endV (bestV l win) * (win.length : Int)) := by rw [hw]; exact hg
    refine Ev.step (fun k => by rw [skiareatop_TopGrooming.l0, if_neg (Int.lt_irrefl _), if_pos hle]) (Ev.bind (valid_ev ok hp.1) ?_)
    refine Ev.ite (fun hv => ?_) fun _ => Ev.now _
    have h := (best_spec ok).2 pl ((rval_iff ok (good_end hp)).1 hv)
    show Ev (fun _ => some (decide (endV pl ≥ endV (bestV l win)))) true
    rw [decide_eq_true (show endV pl ≥ endV (bestV l win) from h)]
    exact Ev.now _
  | d + 1, j, hd, hj => by
    have hl6 := ok.len
    have hjl : j < l.length := by omega
    have ih := top_l0 ok hp d (j + 1) (by omega) (by omega)
    have hF := (best_spec ok).1
    have h1 := dur_le ok hF hjl
    have h2 := durs_in ok j (by omega)
    have h3 := task_in ok hjl
    have HN := Aside0.mk (wS j l.length (by omega) hjl)
    have HW := Aside0.mk (wrap_id (x := durs l j + (rd_T34 l j).f1) (by omega))
    have g0 : (0 : Int) ≤ j := Int.natCast_nonneg j
    have g1 : (j : Int) < l.length := Int.ofNat_lt.2 hjl
    have g2 : ¬ ((rd_T34 l j).f1 > endV (bestV l win)) := by omega
    rw [durs] at ih
    exact Ev.step (fun k => by rw [skiareatop_TopGrooming.l0, if_pos g1, if_pos g0, if_neg g2, HW.out, HN.out]) ih
theorem TopGrooming : ∀ (l0 : List S34) (l1 : List Bool) (l2 : List S37), GoodL (fun x => good34 x) l0 → GoodL (fun x => True) l1 → GoodL (fun x => good37 x) l2 → ∃ k, skiareatop_TopGrooming.f k l0 l1 l2 = some true := by
  intro l win pl hl hw hp
  have hj : ∀ x : Bool, (x = true ∨ OKL l win) → Ev (fun k => skiareatop_TopGrooming.j0 k l win pl x) true := by
    intro x hx
    refine Ev.step (fun k => by rw [skiareatop_TopGrooming.j0]) (Ev.ite (fun _ => Ev.now _) fun h => ?_)
    have ok := hx.resolve_left h
    have hF := (best_spec ok).1
    refine Ev.bind (Ev.is (best_f ok)) (Ev.bind (Ev.is (least_f ok)) (Ev.bind (valid_ev ok (by have := hF.vp.1; have := ok.len; omega)) (Ev.yes (best_valid ok) (Ev.bind (a := endV (bestV l win)) (Ev.now _) (Ev.step (fun k => by rw [skiareatop_TopGrooming.j1, bne_self_eq_false, if_neg (by decide)]; rfl) (top_l0 ok hp l.length 0 (by omega) (Nat.zero_le _)))))))
  refine Ev.rounds (Ev.bind plans_ev (Ev.yes rfl (Ev.ite (fun _ => hj _ (.inl rfl)) fun _ => Ev.ite (fun _ => hj _ (.inl rfl)) fun _ => Ev.ite (fun _ => hj _ (.inl rfl)) fun _ => Ev.bind (rright_ev l win hl.1 hw.1) (hj _ ?_))))
  by_cases h : rightV l win = 0
  · exact .inr (right_ok h)
  · exact .inl (bne_iff_ne.2 h)
end Go.Proofs.Yticfgecicmgpeaa.Pure
