/- The reference's search finds a plan that ends as early as the planner's. Condition: accepted tasks and groomers. -/
import Derived.Test.YticfgecicmgpeaaAx45
import Derived.Test.YticfgecicmgpeaaAx46
import Derived.Test.YticfgecicmgpeaaAx47
import Derived.Test.YticfgecicmgpeaaPlanB
namespace Go.Proofs.Yticfgecicmgpeaa.Pure
open Go.RowKit Go.Proofs.Yticfgecicmgpeaa.A Go.Proofs.YticfgecicmgpeaaW.PrintWords Go.Proofs.YticfgecicmgpeaaW.PrintLast Go.Proofs.YticfgecicmgpeaaW.PrintMore
set_option linter.unusedVariables false
set_option linter.unusedSimpArgs false
theorem mem_rd {plan : List S37} {a : S37} : a ∈ plan ↔ ∃ j : Nat, j < plan.length ∧ rd_T37 plan j = a := by
  constructor
  · intro h
    obtain ⟨j, hj, rfl⟩ := List.getElem_of_mem h
    exact ⟨j, hj, rd37_get hj⟩
  · rintro ⟨j, hj, rfl⟩
    rw [rd37_get hj]; exact List.getElem_mem hj
theorem frTo_spec (l : List S34) (plan : List S37) (t : S34) (g : Int) : ∀ k, k ≤ plan.length → 0 ≤ frTo l plan t g k ∧ (frTo l plan t g k = 0 ∨ ∃ a ∈ plan, (a.f0 = g ∨ clashT (tk l a) t = true) ∧ frTo l plan t g k = a.f3) ∧ ∀ j : Nat, j < k → ((rd_T37 plan j).f0 = g ∨ clashT (tk l (rd_T37 plan j)) t = true) → (rd_T37 plan j).f3 ≤ frTo l plan t g k
  | 0, _ => ⟨Int.le_refl _, .inl rfl, fun j hj => by omega⟩
  | k + 1, hk => by
    obtain ⟨h1, h2, h3⟩ := frTo_spec l plan t g k (by omega)
    rw [frTo]
    split
    · rename_i hc
      refine ⟨by omega, .inr ⟨_, mem_rd.2 ⟨k, by omega, rfl⟩, hc.2, rfl⟩, fun j hj hcj => ?_⟩
      by_cases e : j = k
      · subst e; exact Int.le_refl _
      · have := h3 j (by omega) hcj; omega
    · rename_i hc
      refine ⟨h1, h2, fun j hj hcj => ?_⟩
      by_cases e : j = k
      · subst e
        refine Classical.byContradiction fun hgt => hc ⟨by omega, hcj⟩
      · exact h3 j (by omega) hcj
theorem fr_start (l : List S34) (plan : List S37) (i : Nat) (g : Int) : Start l plan i g (frV l plan (rd_T34 l i) g) := by
  obtain ⟨h1, h2, h3⟩ := frTo_spec l plan (rd_T34 l i) g plan.length (Nat.le_refl _)
  refine ⟨h1, h2, fun a ha hc => ?_⟩
  obtain ⟨j, hj, rfl⟩ := mem_rd.1 ha
  exact h3 j hj hc
theorem dn_spec (plan : List S37) (x : Int) : dnV plan x = true ↔ ∃ a ∈ plan, a.f1 = x := by
  have h : ∀ k, k ≤ plan.length → (dnTo plan x k = true ↔ ∃ j : Nat, j < k ∧ (rd_T37 plan j).f1 = x) := by
    intro k
    induction k with
    | zero => intro _; exact ⟨fun h => (by cases h), fun ⟨j, hj, _⟩ => by omega⟩
    | succ k ih =>
      intro hk
      rw [dnTo, Bool.or_eq_true, ih (by omega), beq_iff_eq]
      constructor
      · rintro (⟨j, hj, e⟩ | e)
        · exact ⟨j, by omega, e⟩
        · exact ⟨k, by omega, e⟩
      · rintro ⟨j, hj, e⟩
        by_cases q : j = k
        · subst q; exact .inr e
        · exact .inl ⟨j, by omega, e⟩
  rw [dnV, h _ (Nat.le_refl _)]
  constructor
  · rintro ⟨j, hj, e⟩; exact ⟨_, mem_rd.2 ⟨j, hj, rfl⟩, e⟩
  · rintro ⟨a, ha, e⟩
    obtain ⟨j, hj, rfl⟩ := mem_rd.1 ha
    exact ⟨j, hj, e⟩
structure InvR (l : List S34) (win : List Bool) (n : Nat) (plan : List S37) : Prop where
  good : Good l win plan
  cnt : plan.length + n = l.length
  top : ∀ a ∈ plan, a.f3 ≤ busy plan
def ResR (l : List S34) (win : List Bool) (B : Int) (b : List S37 × Int) : Prop := b = ([], B) ∨ (VP l win b.1 ∧ endV b.1 = b.2)
structure Cn (l : List S34) (win : List Bool) (B X : Int) (plan : List S37) (b : List S37 × Int) : Prop where
  res : ResR l win B b
  le : b.2 ≤ X
  past : ∀ a ∈ plan, a.f3 ≤ b.2
  pos : 0 ≤ b.2
theorem busy_snoc (P : List S37) (x : S37) : busy (P ++ [x]) = (x.f3 - x.f2) + busy P := by rw [busy_perm (List.perm_append_singleton x P), busy]
theorem InvR.placed {l : List S34} {win : List Bool} (ok : OKL l win) {n : Nat} {plan : List S37} (h : InvR l win n plan) {i : Nat} (hi : i < l.length) (g : Nat) : rto l plan i g = frV l plan (rd_T34 l i) ((g : Int) + 1) + (rd_T34 l i).f1 ∧ radd l plan i g = ⟨(g : Int) + 1, (rd_T34 l i).f0, frV l plan (rd_T34 l i) ((g : Int) + 1), frV l plan (rd_T34 l i) ((g : Int) + 1) + (rd_T34 l i).f1⟩ := by
  have hs := fr_start l plan i ((g : Int) + 1)
  have hb := busy_le ok h.good
  have h1 := hs.top hb.1 h.top
  have h2 := hs.nonneg
  have h3 := task_in ok hi
  have h4 := h.cnt
  have h5 := ok.len
  have e : rto l plan i g = frV l plan (rd_T34 l i) ((g : Int) + 1) + (rd_T34 l i).f1 := by unfold rto; exact wrap_id (by omega)
  exact ⟨e, by unfold radd; rw [e]⟩
theorem InvR.next {l : List S34} {win : List Bool} (ok : OKL l win) {n : Nat} {plan : List S37} (h : InvR l win (n + 1) plan) {i g : Nat} (hi : i < l.length) (hg : g < win.length) (hd : ¬ dnV plan (rd_T34 l i).f0 = true) (hw : rdOf false win (g : Int) = true ∨ (rd_T34 l i).f2 = false) : InvR l win n (plan ++ [radd l plan i g]) := by
  have hs := fr_start l plan i ((g : Int) + 1)
  obtain ⟨e1, e2⟩ := h.placed ok hi g
  have hb := busy_le ok h.good
  have hgood := h.good.add ok hi (fun a ha e => hd ((dn_spec _ _).2 ⟨a, ha, e⟩)) (g := (g : Int) + 1) (by omega) (by rw [show ((g : Int) + 1 - 1) = (g : Int) by omega]; exact hw) hs.nonneg hs.le
  rw [e2]
  refine ⟨hgood.perm (List.perm_append_singleton _ _).symm, by rw [List.length_append, List.length_singleton]; have := h.cnt; omega, fun a ha => ?_⟩
  have ht := hs.top hb.1 h.top
  have hpos := task_in ok hi
  rw [busy_snoc]
  show _ ≤ (frV l plan (rd_T34 l i) ((g : Int) + 1) + (rd_T34 l i).f1 - frV l plan (rd_T34 l i) ((g : Int) + 1)) + busy plan
  rcases List.mem_append.1 ha with ha | ha
  · have := h.top a ha; omega
  · rw [List.mem_singleton] at ha; subst ha
    show frV l plan (rd_T34 l i) ((g : Int) + 1) + (rd_T34 l i).f1 ≤ _
    omega
theorem nxt_keep {l : List S34} {win : List Bool} (ok : OKL l win) {B X : Int} : ∀ (n : Nat) (plan : List S37) (b : List S37 × Int), InvR l win n plan → Cn l win B X plan b → Cn l win B X plan (nxt l win n plan b)
  | 0, plan, b, h, hb => by
    rw [nxt]
    refine ⟨.inr ⟨⟨by have := h.cnt; exact this, h.good⟩, rfl⟩, ?_, fun a ha => (end_spec (List.ne_nil_of_mem ha)).1 a ha, end_nonneg ok h.good⟩
    have := end_past hb.pos hb.past
    have := hb.le
    show endV plan ≤ X
    omega
  | n + 1, plan, b, h, hb => by
    rw [nxt]
    refine upTo_b (n := l.length) (fun i b hi hb => ?_) _ _ (Nat.le_refl _) hb
    unfold niOf
    split
    · exact hb
    · rename_i hd
      refine upTo_b (n := win.length) (fun g b hg hb => ?_) _ _ (Nat.le_refl _) hb
      unfold ngOf
      split
      · rename_i hc
        have hI := h.next ok hi hg hd hc.2
        have := nxt_keep ok (B := B) (X := X) n (plan ++ [radd l plan i g]) b hI ⟨hb.res, hb.le, fun a ha => by
          rcases List.mem_append.1 ha with ha | ha
          · exact hb.past a ha
          · rw [List.mem_singleton] at ha; subst ha
            have := hc.1
            show rto l plan i g ≤ _
            omega, hb.pos⟩
        exact ⟨this.res, this.le, fun a ha => this.past a (List.mem_append_left _ ha), this.pos⟩
      · exact hb
theorem nxt_fol {l : List S34} {win : List Bool} (ok : OKL l win) {B X : Int} {σ : List S37} (hσ : VP l win σ) : ∀ (n : Nat) (plan : List S37) (b : List S37 × Int), InvR l win n plan → Cn l win B X plan b → Fol σ plan → (nxt l win n plan b).2 ≤ endV σ := by
  intro n
  induction n with
  | zero =>
    intro plan b h hb hf
    rw [nxt]
    exact end_past (end_nonneg ok hσ.2) fun a ha => hf.le ha
  | succ n ih =>
    intro plan b h hb hf
    rw [nxt]
    obtain ⟨i, g, hi, hg, hout, hw, c, hc, hstep⟩ := hf.next ok hσ h.good (by have := h.cnt; omega)
    obtain ⟨hle, hfol⟩ := hstep _ (fr_start l plan i _)
    have hd : ¬ dnV plan (rd_T34 l i).f0 = true := fun q => by
      obtain ⟨a, ha, e⟩ := (dn_spec _ _).1 q
      exact hout a ha e
    have hcE : c.f3 ≤ endV σ := (end_spec (List.ne_nil_of_mem hc)).1 c hc
    obtain ⟨e1, e2⟩ := h.placed ok hi g
    have hkeep : ∀ (Y : Int) (k : Nat) (b : List S37 × Int), k < l.length → ¬ dnV plan (rd_T34 l k).f0 = true → Cn l win B Y plan b → ∀ j : Nat, j < win.length → Cn l win B Y plan (ngOf l win (nxt l win n) plan k j b) := fun Y k b hk hdk hb j hj => by
      unfold ngOf
      split
      · rename_i hc
        have hI := h.next ok hk hj hdk hc.2
        have := nxt_keep ok (B := B) (X := Y) n (plan ++ [radd l plan k j]) b hI ⟨hb.res, hb.le, fun a ha => by
          rcases List.mem_append.1 ha with ha | ha
          · exact hb.past a ha
          · rw [List.mem_singleton] at ha; subst ha
            have := hc.1
            show rto l plan k j ≤ _
            omega, hb.pos⟩
        exact ⟨this.res, this.le, fun a ha => this.past a (List.mem_append_left _ ha), this.pos⟩
      · exact hb
    have hkeep2 : ∀ (Y : Int) (k : Nat) (b : List S37 × Int), k < l.length → Cn l win B Y plan b → Cn l win B Y plan (niOf l win (nxt l win n) plan k b) := fun Y k b hk hb => by
      unfold niOf
      split
      · exact hb
      · rename_i hdk
        exact upTo_b (n := win.length) (fun j b hj hb => hkeep Y k b hk hdk hb j hj) _ _ (Nat.le_refl _) hb
    have low : ∀ {b : List S37 × Int}, Cn l win B X plan b → b.2 ≤ endV σ → Cn l win B (endV σ) plan b := fun h q => ⟨h.res, q, h.past, h.pos⟩
    refine upTo_hit (Q := fun b => b.2 ≤ endV σ) (R := Cn l win B X plan) (n := l.length) (fun k b hk hb => hkeep2 X k b hk hb) (fun k b hk hR hb => (hkeep2 _ k b hk (low hR hb)).le) i hi (fun b hR => ?_) _ _ (Nat.le_refl _) hi hb
    show (niOf l win (nxt l win n) plan i b).2 ≤ _
    unfold niOf
    rw [if_neg hd]
    refine upTo_hit (Q := fun b => b.2 ≤ endV σ) (R := Cn l win B X plan) (n := win.length) (fun k b hk hb => hkeep X i b hi hd hb k hk) (fun k b hk hR hb => (hkeep _ i b hi hd (low hR hb) k hk).le) g hg (fun b hR => ?_) _ _ (Nat.le_refl _) hg hR
    show (ngOf l win (nxt l win n) plan i g b).2 ≤ _
    unfold ngOf
    split
    · rename_i hcc
      have hI := h.next ok hi hg hd hw
      refine ih _ b hI ⟨hR.res, hR.le, fun a ha => ?_, hR.pos⟩ ?_
      · rcases List.mem_append.1 ha with ha | ha
        · exact hR.past a ha
        · rw [List.mem_singleton] at ha; subst ha
          have := hcc.1
          show rto l plan i g ≤ _
          omega
      · rw [e2]; exact hfol.perm (List.perm_append_singleton _ _).symm
    · rename_i hcc
      have : ¬ rto l plan i g < b.2 := fun q => hcc ⟨q, hw⟩
      omega
/-- The times of the first k tasks. -/
def durs (l : List S34) : Nat → Int
  | 0 => 0
  | k + 1 => durs l k + (rd_T34 l k).f1
theorem durs_in {l : List S34} {win : List Bool} (ok : OKL l win) : ∀ k, k ≤ l.length → 0 ≤ durs l k ∧ durs l k ≤ 86400 * k
  | 0, _ => by simp [durs]
  | k + 1, hk => by
    have h1 := durs_in ok k (by omega)
    have h2 := task_in ok (i := k) (by omega)
    rw [durs]; omega
theorem bs_spec {l : List S34} {win : List Bool} (ok : OKL l win) : ∀ k, k ≤ l.length → bsTo l k = 1 + durs l k
  | 0, _ => rfl
  | k + 1, hk => by
    have h1 := durs_in ok k (by omega)
    have h2 := task_in ok (i := k) (by omega)
    have h3 := ok.len
    rw [bsTo, bs_spec ok k (by omega), durs, wrap_id (by omega)]
    omega
theorem full_busy {l : List S34} {win : List Bool} (ok : OKL l win) {pl : List S37} (h : Full l win pl) : busy pl = durs l l.length := by
  have hk : ∀ k, k ≤ l.length → busy (pl.take k) = durs l k := by
    intro k
    induction k with
    | zero => intro _; rfl
    | succ k ih =>
      intro hk
      have hlt : k < pl.length := by rw [h.vp.1]; omega
      have hF := h.vp.2.1 _ (List.getElem_mem hlt)
      have he := hF.2.2.2.2.1
      have hi := h.idx k (by omega)
      rw [rd37_get hlt] at hi
      have ht : tk l pl[k] = rd_T34 l k := by unfold tk; rw [hi, run_idx ok.dist (by omega)]
      rw [ht] at he
      rw [List.take_succ_eq_append_getElem hlt, busy_snoc, ih (by omega), durs]
      omega
  have := hk l.length (Nat.le_refl _)
  rw [← h.vp.1, List.take_length] at this
  rw [this, h.vp.1]
theorem mem_pk {pl : List S37} {x : Int} {a : S37} : ∀ k, k ≤ pl.length → (a ∈ pkTo pl x k ↔ ∃ j : Nat, j < k ∧ rd_T37 pl j = a ∧ a.f1 = x)
  | 0, _ => ⟨fun h => absurd h List.not_mem_nil, fun ⟨j, hj, _⟩ => by omega⟩
  | k + 1, hk => by
    have ih := mem_pk (pl := pl) (x := x) (a := a) k (by omega)
    rw [pkTo]
    constructor
    · intro h
      split at h
      · rename_i hx
        rcases List.mem_append.1 h with h | h
        · obtain ⟨j, hj, e⟩ := ih.1 h; exact ⟨j, by omega, e⟩
        · rw [List.mem_singleton] at h; subst h; exact ⟨k, by omega, rfl, hx⟩
      · obtain ⟨j, hj, e⟩ := ih.1 h; exact ⟨j, by omega, e⟩
    · rintro ⟨j, hj, e, hx⟩
      by_cases q : j = k
      · subst q
        rw [if_pos (by rw [e]; exact hx)]
        exact List.mem_append_right _ (by rw [e]; exact List.mem_singleton.2 rfl)
      · have := ih.2 ⟨j, by omega, e, hx⟩
        split
        · exact List.mem_append_left _ this
        · exact this
theorem mem_out {l : List S34} {pl : List S37} {a : S37} : ∀ k, k ≤ l.length → (a ∈ outTo l pl k ↔ ∃ j : Nat, j < k ∧ a ∈ pl ∧ a.f1 = (rd_T34 l j).f0)
  | 0, _ => ⟨fun h => absurd h List.not_mem_nil, fun ⟨j, hj, _⟩ => by omega⟩
  | k + 1, hk => by
    rw [outTo, List.mem_append, mem_out k (by omega), mem_pk _ (Nat.le_refl _)]
    constructor
    · rintro (⟨j, hj, e⟩ | ⟨j, hj, e1, e2⟩)
      · exact ⟨j, by omega, e⟩
      · exact ⟨k, by omega, mem_rd.2 ⟨j, hj, e1⟩, e2⟩
    · rintro ⟨j, hj, e1, e2⟩
      by_cases q : j = k
      · subst q
        obtain ⟨i, hi, e⟩ := mem_rd.1 e1
        exact .inr ⟨i, hi, e, e2⟩
      · exact .inl ⟨j, by omega, e1, e2⟩
theorem pk_len (pl : List S37) (x : Int) : ∀ k, (pkTo pl x k).length ≤ k
  | 0 => Nat.le_refl _
  | k + 1 => by
    have := pk_len pl x k
    rw [pkTo]
    split
    · rw [List.length_append, List.length_singleton]; omega
    · omega
theorem out_len (l : List S34) (pl : List S37) : ∀ k, (outTo l pl k).length ≤ k * pl.length
  | 0 => by rw [outTo, Nat.zero_mul]; exact Nat.le_refl _
  | k + 1 => by
    have h1 := out_len l pl k
    have h2 := pk_len pl (rd_T34 l k).f0 pl.length
    rw [outTo, List.length_append, Nat.succ_mul]
    omega
/-- Both searches find the same least end. -/
theorem rbest_end {l : List S34} {win : List Bool} (ok : OKL l win) : endV (rbestV l win) = endV (bestV l win) ∧ (rbestV l win).length ≤ 36 := by
  obtain ⟨hF, hmin⟩ := best_spec ok
  have hB := bs_spec ok l.length (Nat.le_refl _)
  have hD := durs_in ok l.length (Nat.le_refl _)
  have hI : InvR l win l.length [] := ⟨⟨no_mem, List.Pairwise.nil⟩, by simp, no_mem⟩
  have hC : Cn l win (bsTo l l.length) (bsTo l l.length) [] ([], bsTo l l.length) := ⟨.inl rfl, Int.le_refl _, no_mem, by show 0 ≤ bsTo l l.length; omega⟩
  have h1 := nxt_keep ok l.length [] _ hI hC
  have h2 := nxt_fol ok hF.vp l.length [] _ hI hC no_mem
  have htop := hF.top
  rw [full_busy ok hF] at htop
  have hres := h1.res
  have hvp : VP l win (rplan l win) ∧ endV (rplan l win) = (nxt l win l.length [] ([], bsTo l l.length)).2 := by
    refine hres.resolve_left fun e => ?_
    rw [e] at h2
    have : bsTo l l.length ≤ endV (bestV l win) := h2
    omega
  have he : endV (rplan l win) = endV (bestV l win) := by
    have := hmin _ hvp.1
    have := hvp.2
    omega
  rw [← he]
  refine ⟨?_, ?_⟩
  rotate_left
  · have h5 := out_len l (rplan l win) l.length
    have h6 := hvp.1.1
    have h7 := ok.len
    rw [h6] at h5
    have h8 : l.length * l.length ≤ 6 * 6 := Nat.mul_le_mul h7 h7
    unfold rbestV
    omega
  have hmem : ∀ a, a ∈ rbestV l win ↔ a ∈ rplan l win := fun a => by
    unfold rbestV
    rw [mem_out _ (Nat.le_refl _)]
    constructor
    · rintro ⟨j, _, h, _⟩; exact h
    · intro h
      have hf := hvp.1.2.1 a h
      exact ⟨runAt l a.f1, hf.1, h, (tk_run hf.1).symm⟩
  by_cases hn : rplan l win = []
  · have hr : rbestV l win = [] := List.eq_nil_iff_forall_not_mem.2 fun a ha => by
      have := (hmem a).1 ha
      rw [hn] at this
      exact absurd this List.not_mem_nil
    rw [hn, hr]
  · obtain ⟨h3, a, ha, h4⟩ := end_spec hn
    exact end_eq (fun b hb => h3 b ((hmem b).1 hb)) ⟨a, (hmem a).2 ha, h4⟩
theorem rleast_ev {l : List S34} {win : List Bool} (ok : OKL l win) : Ev (fun k => skiarearef47_Least.f k l win) (endV (bestV l win)) := by
  obtain ⟨h1, h2⟩ := rbest_end ok
  have hb : skiarearef47_Best.f l win = some (rbestV l win) := if_pos ⟨by have := ok.len; omega, by have := ok.wlen; omega⟩
  rw [← h1]
  exact Ev.bind (Ev.is hb) (Ev.bind (end_ev _ (by omega)) (Ev.now _))
end Go.Proofs.Yticfgecicmgpeaa.Pure
