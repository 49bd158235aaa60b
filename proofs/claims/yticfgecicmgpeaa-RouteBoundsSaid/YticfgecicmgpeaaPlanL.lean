/- Facts that several laws of routes want: what the best plan computes, one task less, one groomer more. Condition: accepted tasks and groomers. -/
import Derived.Test.YticfgecicmgpeaaAx9
import Derived.Test.YticfgecicmgpeaaPlanB
import Derived.Test.YticfgecicmgpeaaPlanV
import Derived.Test.YticfgecicmgpeaaOpen
namespace Go.Proofs.Yticfgecicmgpeaa.Pure
open Go.RowKit Go.Proofs.Yticfgecicmgpeaa.A Go.Proofs.YticfgecicmgpeaaW.PrintWords Go.Proofs.YticfgecicmgpeaaW.PrintLast Go.Proofs.YticfgecicmgpeaaW.PrintMore
set_option linter.unusedVariables false
set_option linter.unusedSimpArgs false
theorem best_f {l : List S34} {win : List Bool} (ok : OKL l win) : route_Best.f l win = some (bestV l win) := if_pos ⟨by have := ok.len; omega, by have := ok.wlen; omega⟩
theorem least_f {l : List S34} {win : List Bool} (ok : OKL l win) : route_Least.f l win = some (endV (bestV l win)) := by
  unfold route_Least.f
  rw [best_f ok]
  rfl
theorem full_end {l : List S34} {win : List Bool} (ok : OKL l win) {pl : List S37} (h : Full l win pl) : endV pl ≤ 518400 := by
  have h1 := busy_le ok h.vp.2
  have h2 := h.top
  have h3 := h.vp.1
  have h4 := ok.len
  omega
theorem full_small {l : List S34} {win : List Bool} (ok : OKL l win) {pl : List S37} (h : Full l win pl) : ∀ a ∈ pl, a.f3 ≤ 9223372036854775807 := fun a ha => by
  have h1 := full_end ok h
  have h2 := (end_spec (List.ne_nil_of_mem ha)).1 a ha
  omega
theorem best_valid {l : List S34} {win : List Bool} (ok : OKL l win) : rvalV l win (bestV l win) = true := (rval_iff ok (full_small ok (best_spec ok).1)).2 (best_spec ok).1.vp
theorem good_end {pl : List S37} (h : GoodL (fun x => good37 x) pl) : ∀ a ∈ pl, a.f3 ≤ 9223372036854775807 := fun a ha => (h.2 a ha).2.2.2.2
theorem ok_more {l : List S34} {win : List Bool} (ok : OKL l win) (h : win.length < 3) (x : Bool) : OKL l (win ++ [x]) :=
  ⟨ok.len, by rw [List.length_append, List.length_singleton]; omega, by rw [List.length_append, List.length_singleton]; omega, fun t ht => by
    have := ok.each t ht
    exact ⟨this.1, this.2.1, this.2.2.1, this.2.2.2.1, this.2.2.2.2.1, fun q => List.mem_append_left _ (this.2.2.2.2.2 q)⟩, ok.dist⟩
theorem vp_more {l : List S34} {win : List Bool} {σ : List S37} (h : VP l win σ) (x : Bool) : VP l (win ++ [x]) σ := by
  refine ⟨h.1, fun a ha => ?_, h.2.2⟩
  obtain ⟨h1, h2, h3, h4, h5, h6⟩ := h.2.1 a ha
  refine ⟨h1, h2, by rw [List.length_append, List.length_singleton]; omega, h4, h5, ?_⟩
  have hlt : (a.f0 - 1).toNat < win.length := by omega
  rw [show rdOf false (win ++ [x]) (a.f0 - 1) = rdOf false win (a.f0 - 1) by unfold rdOf; rw [List.getD_eq_getElem?_getD, List.getD_eq_getElem?_getD, List.getElem?_append_left hlt]]
  exact h6
theorem tk_of {l : List S34} (hd : l.Pairwise (fun a b => a.f0 ≠ b.f0)) {t : S34} (ht : t ∈ l) {a : S37} (h : a.f1 = t.f0) : runAt l a.f1 < l.length ∧ tk l a = t := by
  obtain ⟨k, hk, rfl⟩ := List.getElem_of_mem ht
  have e : a.f1 = (rd_T34 l k).f0 := by rw [rdT_get hk]; exact h
  unfold tk
  rw [e, run_idx hd hk, rdT_get hk]
  exact ⟨hk, rfl⟩
theorem ok_few {l : List S34} {win : List Bool} (ok : OKL l win) (i : Nat) : OKL (l.eraseIdx i) win :=
  ⟨Nat.le_trans (List.length_eraseIdx_le ..) ok.len, ok.wlen, ok.wpos, fun t ht => ok.each t (List.mem_of_mem_eraseIdx ht), ok.dist.sublist (List.eraseIdx_sublist ..)⟩
theorem vp_few {l : List S34} {win : List Bool} (ok : OKL l win) {pl : List S37} (h : Full l win pl) {i : Nat} (hi : i < l.length) : VP (l.eraseIdx i) win (pl.eraseIdx i) := by
  have okf := ok_few ok i
  have ht : ∀ a ∈ pl.eraseIdx i, runAt (l.eraseIdx i) a.f1 < (l.eraseIdx i).length ∧ tk (l.eraseIdx i) a = tk l a := fun a ha => by
    obtain ⟨j, hj, hne, rfl⟩ := List.mem_eraseIdx_iff_getElem.1 ha
    have hjl : j < l.length := by rw [← h.vp.1]; exact hj
    have hr := h.idx j hjl
    rw [rd37_get hj, rdT_get hjl] at hr
    have h1 := tk_of okf.dist (List.mem_eraseIdx_iff_getElem.2 ⟨j, hjl, hne, rfl⟩) hr
    have h2 := tk_of ok.dist (List.getElem_mem hjl) hr
    exact ⟨h1.1, h1.2.trans h2.2.symm⟩
  refine ⟨?_, fun a ha => ?_, ?_⟩
  · have h1 := h.vp.1
    rw [List.length_eraseIdx, List.length_eraseIdx, if_pos hi, if_pos (by omega), h1]
  · obtain ⟨h1, h2, h3, h4, h5, h6⟩ := h.vp.2.1 a (List.mem_of_mem_eraseIdx ha)
    obtain ⟨g1, g2⟩ := ht a ha
    exact ⟨g1, h2, h3, h4, by rw [g2]; exact h5, by rw [g2]; exact h6⟩
  · refine (List.Pairwise.and_mem.1 (h.vp.2.2.sublist (List.eraseIdx_sublist pl i))).imp ?_
    intro a b hab
    refine ⟨hab.2.2.1, fun c => hab.2.2.2 ?_⟩
    unfold Cf at c ⊢
    rw [(ht a hab.1).2, (ht b hab.2.1).2] at c
    exact c
theorem least_few {l : List S34} {win : List Bool} (ok : OKL l win) {i : Nat} (hi : i < l.length) : endV (bestV (l.eraseIdx i) win) ≤ endV (bestV l win) := by
  have h := (best_spec ok).1
  have h1 := (best_spec (ok_few ok i)).2 _ (vp_few ok h hi)
  have h2 := end_past (plan := (bestV l win).eraseIdx i) (end_nonneg ok h.vp.2) fun a ha => (end_spec (List.ne_nil_of_mem (List.mem_of_mem_eraseIdx ha))).1 a (List.mem_of_mem_eraseIdx ha)
  omega
theorem least_more {l : List S34} {win : List Bool} (ok : OKL l win) (h : win.length < 3) (x : Bool) : endV (bestV l (win ++ [x])) ≤ endV (bestV l win) :=
  (best_spec (ok_more ok h x)).2 _ (vp_more (best_spec ok).1.vp x)
end Go.Proofs.Yticfgecicmgpeaa.Pure
