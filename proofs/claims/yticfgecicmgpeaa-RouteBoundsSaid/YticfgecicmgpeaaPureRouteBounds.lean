/- The law RouteBounds of the printed functions: the bounds of the least end; if all tasks clash, it is the sum. Condition: lists that a machine can hold. -/
import Derived.Test.YticfgecicmgpeaaBounds
import Derived.Test.YticfgecicmgpeaaPlanL
namespace Go.Proofs.Yticfgecicmgpeaa.Pure
open Go.RowKit Go.Proofs.Yticfgecicmgpeaa.A Go.Proofs.YticfgecicmgpeaaW.PrintWords Go.Proofs.YticfgecicmgpeaaW.PrintLast Go.Proofs.YticfgecicmgpeaaW.PrintMore
set_option linter.unusedVariables false
set_option linter.unusedSimpArgs false
theorem busy_snoc (P : List S37) (x : S37) : busy (P ++ [x]) = (x.f3 - x.f2) + busy P := by rw [busy_perm (List.perm_append_singleton x P), busy]
/-- The times of the first k tasks. -/
def durs (l : List S34) : Nat → Int
  | 0 => 0
  | k + 1 => durs l k + (rd_T34 l k).f1
theorem durs_in {l : List S34} {win : List Bool} (ok : OKL l win) : ∀ k, k ≤ l.length → 0 ≤ durs l k ∧ durs l k ≤ 86400 * k
  | 0, _ => by simp [durs]
  | k + 1, hk => by
    have h1 := durs_in ok k (by omega)
    have h2 := task_in ok (i := k) (by omega)
    rw [durs]; omega
theorem full_busy {l : List S34} {win : List Bool} (ok : OKL l win) {pl : List S37} (h : Full l win pl) : busy pl = durs l l.length := by
  have hk : ∀ k, k ≤ l.length → busy (pl.take k) = durs l k := by
    intro k
    induction k with
    | zero => intro _; rfl
    | succ k ih =>
      intro hk
      have hlt : k < pl.length := by rw [h.vp.1]; omega
      have hF := h.vp.2.1 _ (List.getElem_mem hlt)
      have he := hF.2.2.2.2.1
      have hi := h.idx k (by omega)
      rw [rd37_get hlt] at hi
      have ht : tk l pl[k] = rd_T34 l k := by unfold tk; rw [hi, run_idx ok.dist (by omega)]
      rw [ht] at he
      rw [List.take_succ_eq_append_getElem hlt, busy_snoc, ih (by omega), durs]
      omega
  have := hk l.length (Nat.le_refl _)
  rw [← h.vp.1, List.take_length] at this
  rw [this, h.vp.1]
theorem full_shift {l : List S34} {win : List Bool} (ok : OKL l win) {pl : List S37} (h : Full l win pl) {j : Nat} (hj : j < l.length) : ∃ a ∈ pl, 0 ≤ a.f2 ∧ a.f3 = a.f2 + (rd_T34 l j).f1 := by
  have hlt : j < pl.length := by rw [h.vp.1]; exact hj
  have hF := h.vp.2.1 _ (List.getElem_mem hlt)
  have hi := h.idx j hj
  rw [rd37_get hlt] at hi
  have ht : tk l pl[j] = rd_T34 l j := by unfold tk; rw [hi, run_idx ok.dist hj]
  exact ⟨_, List.getElem_mem hlt, hF.2.2.2.1, by rw [← ht]; exact hF.2.2.2.2.1⟩
theorem dur_le {l : List S34} {win : List Bool} (ok : OKL l win) {pl : List S37} (h : Full l win pl) {j : Nat} (hj : j < l.length) : (rd_T34 l j).f1 ≤ endV pl := by
  obtain ⟨a, ha, h1, h2⟩ := full_shift ok h hj
  have := (end_spec (List.ne_nil_of_mem ha)).1 a ha
  omega
theorem full_groom {l : List S34} {win : List Bool} (ok : OKL l win) {pl : List S37} (h : Full l win pl) : durs l l.length ≤ endV pl * win.length := by
  rw [← full_busy ok h]
  refine busy_groom (end_nonneg ok h.vp.2) win.length pl (fun a ha => ?_) (h.vp.2.2.imp fun {a b} q e => q.2 (.inl e))
  have h1 := h.vp.2.1 a ha
  have h2 := h1.dur ok
  exact ⟨h1.2.2.2.1, by omega, (end_spec (List.ne_nil_of_mem ha)).1 a ha, h1.2.1, h1.2.2.1⟩
theorem all_end {l : List S34} {win : List Bool} (ok : OKL l win) {pl : List S37} (h : Full l win pl) (hc : ∀ a ∈ l, ∀ b ∈ l, clashT a b = true) : endV pl = durs l l.length := by
  have h1 := h.top
  have h2 := full_busy ok h
  have h3 := busy_dis pl.length pl (endV pl) rfl (fun a ha => by
    have h1 := h.vp.2.1 a ha
    have h2 := h1.dur ok
    exact ⟨h1.2.2.2.1, by omega, (end_spec (List.ne_nil_of_mem ha)).1 a ha⟩) ((List.Pairwise.and_mem.1 h.vp.2.2).imp fun {a b} q => q.2.2.2 (.inr (hc _ (tk_mem (h.vp.2.1 a q.1).1) _ (tk_mem (h.vp.2.1 b q.2.1).1)))) (end_nonneg ok h.vp.2)
  omega
def lng (l : List S34) : Nat → Int
  | 0 => 0
  | k + 1 => mx (lng l k) (rd_T34 l k).f1
def runsTo (l : List S34) : Nat → List Int
  | 0 => []
  | k + 1 => runsTo l k ++ [(rd_T34 l k).f0]
theorem runs_len (l : List S34) : ∀ k, (runsTo l k).length = k
  | 0 => rfl
  | k + 1 => by rw [runsTo, List.length_append, runs_len l k]; rfl
theorem runs_mem (l : List S34) : ∀ k (j : Nat), j < k → (rd_T34 l j).f0 ∈ runsTo l k
  | 0, j, h => by omega
  | k + 1, j, h => by
    rw [runsTo]
    by_cases e : j = k
    · subst e; exact List.mem_append_right _ (List.mem_singleton.2 rfl)
    · exact List.mem_append_left _ (runs_mem l k j (by omega))
/-- X is l, the first k tasks' lists of clashes turned into R. -/
structure Turned (l X : List S34) (R : List Int) (k : Nat) : Prop where
  len : X.length = l.length
  same : ∀ i : Nat, i < l.length → (rd_T34 X i).f0 = (rd_T34 l i).f0 ∧ (rd_T34 X i).f1 = (rd_T34 l i).f1 ∧ (rd_T34 X i).f2 = (rd_T34 l i).f2
  cl : ∀ i : Nat, i < k → (rd_T34 X i).f3 = R
theorem rd34_set_at {xs : List S34} {i : Nat} (x : S34) (hi : i < xs.length) : rd_T34 (xs.set i x) i = x := by simp [rd_T34, List.getElem?_set, hi]
theorem rd34_set_ne {xs : List S34} {i j : Nat} (x : S34) (h : j ≠ i) : rd_T34 (xs.set i x) j = rd_T34 xs j := by simp [rd_T34, List.getElem?_set, Ne.symm h]
theorem Turned.next {l X : List S34} {R : List Int} {k : Nat} (h : Turned l X R k) (hk : k < l.length) : Turned l (X.set k ⟨(rd_T34 X k).f0, (rd_T34 X k).f1, (rd_T34 X k).f2, R⟩) R (k + 1) := by
  have hX : k < X.length := by rw [h.len]; exact hk
  refine ⟨by rw [List.length_set]; exact h.len, fun i hi => ?_, fun i hi => ?_⟩
  · by_cases e : i = k
    · subst e; rw [rd34_set_at _ hX]; exact h.same i hi
    · rw [rd34_set_ne _ e]; exact h.same i hi
  · by_cases e : i = k
    · subst e; rw [rd34_set_at _ hX]
    · rw [rd34_set_ne _ e]; exact h.cl i (by omega)
theorem mem34 {l : List S34} {a : S34} (h : a ∈ l) : ∃ i : Nat, i < l.length ∧ rd_T34 l i = a := by
  obtain ⟨i, hi, rfl⟩ := List.getElem_of_mem h
  exact ⟨i, hi, rdT_get hi⟩
theorem Turned.ok {l X : List S34} {win : List Bool} (ok : OKL l win) (h : Turned l X (runsTo l l.length) l.length) : OKL X win := by
  refine ⟨by rw [h.len]; exact ok.len, ok.wlen, ok.wpos, fun x hx => ?_, ?_⟩
  · obtain ⟨i, hi, rfl⟩ := mem34 hx
    rw [h.len] at hi
    have h1 := ok.each (rd_T34 l i) (by rw [rdT_get hi]; exact List.getElem_mem hi)
    obtain ⟨e0, e1, e2⟩ := h.same i hi
    rw [e0, e1, e2, h.cl i hi, runs_len]
    exact ⟨h1.1, h1.2.1, h1.2.2.1, h1.2.2.2.1, ok.len, h1.2.2.2.2.2⟩
  · have hd := ok.dist
    rw [List.pairwise_iff_getElem] at hd ⊢
    intro i j hi hj hij
    have hi' : i < l.length := by rw [← h.len]; exact hi
    have hj' : j < l.length := by rw [← h.len]; exact hj
    have e1 := (h.same i hi').1
    have e2 := (h.same j hj').1
    rw [rdT_get hi, rdT_get hi'] at e1
    rw [rdT_get hj, rdT_get hj'] at e2
    rw [e1, e2]
    exact hd i j hi' hj' hij
theorem Turned.clash {l X : List S34} (h : Turned l X (runsTo l l.length) l.length) : ∀ a ∈ X, ∀ b ∈ X, clashT a b = true := fun a ha b hb => by
  obtain ⟨i, hi, rfl⟩ := mem34 ha
  obtain ⟨j, hj, rfl⟩ := mem34 hb
  rw [h.len] at hi hj
  have hm := runs_mem l l.length j hj
  rw [← (h.same j hj).1, ← h.cl i hi] at hm
  unfold clashT
  rw [decide_eq_true hm]
  rfl
theorem Turned.durs {l X : List S34} (h : Turned l X (runsTo l l.length) l.length) : ∀ k, k ≤ l.length → durs X k = durs l k
  | 0, _ => rfl
  | k + 1, hk => by rw [Pure.durs, Pure.durs, h.durs k (by omega), (h.same k (by omega)).2.1]
theorem RouteBounds : ∀ (l0 : List S34) (l1 : List Bool), GoodL (fun x => good34 x) l0 → GoodL (fun x => True) l1 → ∃ k, skiarealaw47_RouteBounds.f k l0 l1 = some true := by
  intro l win hl hw
  have hgo : OKL l win → Ev (fun k => skiarealaw47_RouteBounds.l0 k l win (endV (bestV l win)) 0 0 ([] : List Int) (0 : Nat)) true := by
    intro ok
    have hF := (best_spec ok).1
    have hl6 := ok.len
    have hw3 := ok.wlen
    have hEnd := full_end ok hF
    have hE0 := end_nonneg ok hF.vp.2
    have hsum : endV (bestV l win) ≤ durs l l.length := by have := hF.top; rw [full_busy ok hF] at this; exact this
    have hgr := full_groom ok hF
    have hD := durs_in ok l.length (Nat.le_refl _)
    have hlng : ∀ k, k ≤ l.length → lng l k ≤ endV (bestV l win) := by
      intro k
      induction k with
      | zero => intro _; exact hE0
      | succ k ih =>
        intro hk
        have h1 := dur_le ok hF (j := k) (by omega)
        have h2 := mx_ge (lng l k) (rd_T34 l k).f1
        have h3 := ih (by omega)
        rw [lng]
        rcases h2.2.2 with e | e <;> rw [e] <;> omega
    have hl1 : ∀ (d j : Nat) (X : List S34), l.length - j = d → j ≤ l.length → Turned l X (runsTo l l.length) j → Ev (fun k => skiarealaw47_RouteBounds.l1 k win (endV (bestV l win)) (durs l l.length) (lng l l.length) (runsTo l l.length) X j) true := by
      intro d
      induction d with
      | zero =>
        intro j X hd hj hT
        obtain rfl : j = l.length := by omega
        have hmul : wrap64 (endV (bestV l win) * (win.length : Int)) = endV (bestV l win) * win.length := by
          have h1 : endV (bestV l win) * (win.length : Int) ≤ 518400 * 3 := Int.mul_le_mul hEnd (by omega) (by omega) (by decide)
          have h2 : 0 ≤ endV (bestV l win) * (win.length : Int) := Int.mul_nonneg hE0 (by omega)
          exact wrap_id (by omega)
        refine Ev.step (fun k => by rw [skiarealaw47_RouteBounds.l1, if_neg (by rw [hT.len]; omega), hmul]) (Ev.yes (hlng _ (Nat.le_refl _)) (Ev.yes hsum (Ev.yes hgr ?_)))
        have okX := hT.ok ok
        refine Ev.bind (Ev.is (least_f okX)) (Ev.val ?_)
        rw [all_end okX (best_spec okX).1 hT.clash, hT.len, hT.durs _ (Nat.le_refl _)]
        exact beq_self_eq_true _
      | succ d ih =>
        intro j X hd hj hT
        have hw1 : wrap64 ((j : Int) + 1) = ((j + 1 : Nat) : Int) := wS j l.length (by omega) (by omega)
        exact Ev.step (fun k => by rw [skiarealaw47_RouteBounds.l1, if_pos (by rw [hT.len]; omega), if_pos (by omega), hw1, Int.toNat_natCast]) (ih (j + 1) _ (by omega) (by omega) (hT.next (by omega)))
    have hl0 : ∀ (d j : Nat), l.length - j = d → j ≤ l.length → Ev (fun k => skiarealaw47_RouteBounds.l0 k l win (endV (bestV l win)) (durs l j) (lng l j) (runsTo l j) j) true := by
      intro d
      induction d with
      | zero =>
        intro j hd hj
        obtain rfl : j = l.length := by omega
        refine Ev.step (fun k => by rw [skiarealaw47_RouteBounds.l0, if_neg (by omega)]) (Ev.bind (a := ([] : List S34)) (Ev.now _) (Ev.yes ?_ (hl1 l.length 0 _ (by omega) (by omega) ⟨rfl, fun _ _ => ⟨rfl, rfl, rfl⟩, fun i hi => by omega⟩)))
        show 0 + l.length < _
        omega
      | succ d ih =>
        intro j hd hj
        have hw1 : wrap64 ((j : Int) + 1) = ((j + 1 : Nat) : Int) := wS j l.length (by omega) (by omega)
        have h1 := durs_in ok j (by omega)
        have h2 := task_in ok (i := j) (by omega)
        have hw2 : wrap64 (durs l j + (rd_T34 l j).f1) = durs l (j + 1) := by rw [durs]; exact wrap_id (by omega)
        exact Ev.step (fun k => by rw [skiarealaw47_RouteBounds.l0, if_pos (by omega), if_pos (by omega), if_pos (by rw [runs_len]; omega), hw1, hw2]; rfl) (ih (j + 1) (by omega) (by omega))
    exact hl0 l.length 0 (by omega) (by omega)
  have hj : ∀ b, (b = true ∨ OKL l win) → Ev (fun k => skiarealaw47_RouteBounds.j0 k l win b) true := by
    intro b hb
    refine Ev.step (fun k => by rw [skiarealaw47_RouteBounds.j0]) (Ev.ite (fun _ => Ev.now _) fun h => ?_)
    have ok := hb.resolve_left h
    exact Ev.bind (Ev.is (least_f ok)) (hgo ok)
  refine Ev.rounds (Ev.bind (a := true) (Ev.now _) (Ev.yes rfl (Ev.ite (fun _ => hj _ (.inl rfl)) fun _ => Ev.ite (fun _ => hj _ (.inl rfl)) fun _ => Ev.bind (right_ev l win hl.1 hw.1) (hj _ ?_))))
  by_cases h : rightV l win = 0
  · exact .inr (right_ok h)
  · exact .inl (bne_iff_ne.2 h)
end Go.Proofs.Yticfgecicmgpeaa.Pure
