/- Plain laws of the refund chapter: what Closed of the program and of the reference compute. No condition but those named. -/
import Derived.Test.YtfabkiacmbkpmaaAx4
import Derived.Test.YtfabkiacmbkpmaaAx5
import Derived.Test.YtfabkiacmbkpmaaAx17
import Derived.Test.YtfabkiacmbkpmaaAx18
import Derived.Test.YtfabkiacmbkpmaaM3
namespace Go.Proofs.Ytfabkiacmbkpmaa.A
open Go.RowKit Go.Proofs.YtfabkiacmbkpmaaW.PrintWords Go.Proofs.YtfabkiacmbkpmaaW.PrintLast
set_option linter.unusedVariables false
theorem drop_rd (l : List Int) (j : Nat) (h : j < l.length) : l.drop j = rd l j :: l.drop (j + 1) := by
  rw [List.drop_eq_getElem_cons h]
  congr 1
  simp [rd, List.getD_eq_getElem?_getD, h]
theorem drop_rd50 (l : List S50) (j : Nat) (h : j < l.length) : l.drop j = rd_T50 l j :: l.drop (j + 1) := by
  rw [List.drop_eq_getElem_cons h]
  congr 1
  simp [rd_T50, List.getD_eq_getElem?_getD, h]
theorem index_ev (l : List Int) (x : Int) (hl : l.length ≤ 9223372036854775807) (d : Nat) : ∀ j : Nat, l.length - j = d → ∃ r, Ev (fun k => slices_Index_int_int.l0 k l x l.length j) r ∧ (0 ≤ r ↔ x ∈ l.drop j) := by
  induction d with
  | zero =>
    intro j hd
    refine ⟨-1, Ev.step (fun k => by rw [slices_Index_int_int.l0, if_neg (by omega)]) (Ev.now _), ?_⟩
    rw [List.drop_of_length_le (by omega)]
    simp
  | succ d ih =>
    intro j hd
    obtain ⟨r, hr, hm⟩ := ih (j + 1) (by omega)
    rw [drop_rd l j (by omega)]
    by_cases h : x = rd l j
    · exact ⟨j, Ev.step (fun k => by rw [slices_Index_int_int.l0, if_pos (by omega), if_pos (by omega), if_pos (by omega), if_pos h]) (Ev.now _), by simp [h]⟩
    · exact ⟨r, Ev.step (fun k => by rw [slices_Index_int_int.l0, if_pos (by omega), if_pos (by omega), if_pos (by omega), if_neg h, wS j _ hl (by omega)]) hr, by simp [h, hm]⟩
theorem contains_ev (l : List Int) (x : Int) (hl : l.length ≤ 9223372036854775807) : Ev (fun k => slices_Contains_int_int.f k l x) (decide (x ∈ l)) := by
  obtain ⟨r, hr, hm⟩ := index_ev l x hl l.length 0 (by omega)
  simp only [slices_Contains_int_int.f]
  have h0 : Ev (fun k => slices_Index_int_int.f k l x) r := hr
  rw [List.drop_zero] at hm
  exact Ev.bind h0 (Ev.val (decide_eq_decide.2 hm))
theorem has_ev (l : List Int) (x : Int) (hl : l.length ≤ 9223372036854775807) : Ev (fun k => skiarearef10_Has.f k l x) (decide (x ∈ l)) := by
  have key : ∀ d j : Nat, l.length - j = d → Ev (fun k => skiarearef10_Has.l0 k l x j) (decide (x ∈ l.drop j)) := by
    intro d
    induction d with
    | zero =>
      intro j hd
      refine Ev.step (fun k => by rw [skiarearef10_Has.l0, if_neg (by omega)]) (Ev.val ?_)
      rw [List.drop_of_length_le (by omega)]; simp
    | succ d ih =>
      intro j hd
      have hn := ih (j + 1) (by omega)
      rw [drop_rd l j (by omega)]
      by_cases h : rd l j = x
      · refine Ev.step (fun k => by rw [skiarearef10_Has.l0, if_pos (by omega), if_pos (by omega), if_pos h]) (Ev.val (by simp [h]))
      · have e : decide (x ∈ rd l j :: l.drop (j + 1)) = decide (x ∈ l.drop (j + 1)) := by
          apply decide_eq_decide.2; rw [List.mem_cons]; exact ⟨fun h' => h'.elim (fun h1 => absurd h1.symm h) id, Or.inr⟩
        rw [e]
        exact Ev.step (fun k => by rw [skiarearef10_Has.l0, if_pos (by omega), if_pos (by omega), if_neg h, wS j _ hl (by omega)]) hn
  exact key _ 0 rfl
def cA (o : List Int) : List S50 → Int
  | [] => 0
  | x :: xs => (if x.f1 ∈ o then 1 else 0) + cA o xs
def cB (o c : List Int) : List S50 → Int
  | [] => 0
  | x :: xs => (if x.f1 ∈ o ∧ x.f0 ∈ c then 1 else 0) + cB o c xs
def shareV (a b : Int) : Int := if a = 0 then 0 else wrap64 (Int.tdiv (wrap64 (b * 1000)) a)
theorem cAB (o c : List Int) (l : List S50) : 0 ≤ cB o c l ∧ cB o c l ≤ cA o l ∧ cA o l ≤ l.length := by
  induction l with
  | nil => simp [cA, cB]
  | cons x xs ih =>
    unfold cA cB
    rw [List.length_cons]
    split <;> split <;> first | omega | (rename_i h h'; exact absurd h.1 h')
theorem closed_l0 (o c : List Int) (L : List S50) (ho : o.length ≤ 9223372036854775807) (hc : c.length ≤ 9223372036854775807) (hL : L.length ≤ 9223372036854775807) (d : Nat) : ∀ (j : Nat) (a b : Int), L.length - j = d → j ≤ L.length → 0 ≤ b → b ≤ a → a ≤ j →
    Ev (fun k => refund_Closed.l0 k o c a b L L.length j) (shareV (a + cA o (L.drop j)) (b + cB o c (L.drop j))) := by
  induction d with
  | zero =>
    intro j a b hd hj h0 h1 h2
    rw [List.drop_of_length_le (by omega), cA, cB, Int.add_zero, Int.add_zero]
    refine Ev.step (fun k => by rw [refund_Closed.l0, if_neg (by omega)]) ?_
    by_cases ha : a = 0
    · have hv : shareV a b = 0 := if_pos ha
      rw [hv]; exact Ev.yes ha (Ev.now _)
    · have hv : shareV a b = wrap64 (Int.tdiv (wrap64 (b * 1000)) a) := if_neg ha
      rw [hv]; exact Ev.no ha (Ev.now _)
  | succ d ih =>
    intro j a b hd hj h0 h1 h2
    have wa : wrap64 (a + 1) = a + 1 := wrap_id (by omega)
    have wb : wrap64 (b + 1) = b + 1 := wrap_id (by omega)
    refine Ev.step (fun k => by rw [refund_Closed.l0, if_pos (by omega), if_pos (by omega), if_pos (by omega), wS j _ hL (by omega), wa, wb]) ?_
    refine Ev.bind (contains_ev o _ ho) ?_
    rw [drop_rd50 L j (by omega), cA, cB]
    by_cases hA : (rd_T50 L j).f1 ∈ o
    · refine Ev.yes (by simpa using hA) (Ev.bind (contains_ev c _ hc) ?_)
      rw [if_pos hA]
      by_cases hB : (rd_T50 L j).f0 ∈ c
      · rw [if_pos ⟨hA, hB⟩, ← Int.add_assoc, ← Int.add_assoc]
        exact Ev.yes (by simpa using hB) (ih (j + 1) _ _ (by omega) (by omega) (by omega) (by omega) (by omega))
      · rw [if_neg (fun h => hB h.2), ← Int.add_assoc, Int.zero_add]
        exact Ev.no (by simpa using hB) (ih (j + 1) _ _ (by omega) (by omega) (by omega) (by omega) (by omega))
    · rw [if_neg hA, if_neg (fun h => hA h.1), Int.zero_add, Int.zero_add]
      exact Ev.no (by simpa using hA) (ih (j + 1) _ _ (by omega) (by omega) (by omega) (by omega) (by omega))
def closedV (o c : List Int) (L : List S50) : Int := shareV (cA o L) (cB o c L)
theorem closed_ev (n : List S53) (L : List S50) (r : List S66) (e : List Int) (o c : List Int) (ho : o.length ≤ 9223372036854775807) (hc : c.length ≤ 9223372036854775807) (hL : L.length ≤ 9223372036854775807) :
    Ev (fun k => refund_Closed.f k n L r e o c) (closedV o c L) := by
  have := closed_l0 o c L ho hc hL L.length 0 0 0 (by omega) (by omega) (by omega) (by omega) (by omega)
  rw [List.drop_zero, Int.zero_add, Int.zero_add] at this
  exact this
theorem closedR_l0 (n : List S53) (L : List S50) (r : List S66) (e : List Int) (o c : List Int) (ho : o.length ≤ 9223372036854775807) (hc : c.length ≤ 9223372036854775807) (hL : L.length ≤ 9223372036854775807) (d : Nat) : ∀ (j : Nat) (a b : Int), L.length - j = d → j ≤ L.length → 0 ≤ b → b ≤ a → a ≤ j →
    Ev (fun k => skiarearef36_Closed.l0 k o c a b j n L r e) (shareV (a + cA o (L.drop j)) (b + cB o c (L.drop j))) := by
  induction d with
  | zero =>
    intro j a b hd hj h0 h1 h2
    rw [List.drop_of_length_le (by omega), cA, cB, Int.add_zero, Int.add_zero]
    refine Ev.step (fun k => by rw [skiarearef36_Closed.l0, if_neg (by omega)]) ?_
    by_cases ha : a = 0
    · have hv : shareV a b = 0 := if_pos ha
      rw [hv]; exact Ev.yes ha (Ev.now _)
    · have hv : shareV a b = wrap64 (Int.tdiv (wrap64 (1000 * b)) a) := by rw [Int.mul_comm]; exact if_neg ha
      rw [hv]; exact Ev.no ha (Ev.now _)
  | succ d ih =>
    intro j a b hd hj h0 h1 h2
    have wa : wrap64 (a + 1) = a + 1 := wrap_id (by omega)
    have wb : wrap64 (b + 1) = b + 1 := wrap_id (by omega)
    refine Ev.step (fun k => by rw [skiarearef36_Closed.l0, if_pos (by omega), if_pos (by omega), wS j _ hL (by omega), wa, wb]) ?_
    refine Ev.bind (has_ev o _ ho) ?_
    rw [drop_rd50 L j (by omega), cA, cB]
    by_cases hA : (rd_T50 L j).f1 ∈ o
    · refine Ev.yes (by simpa using hA) (Ev.bind (has_ev c _ hc) ?_)
      rw [if_pos hA]
      by_cases hB : (rd_T50 L j).f0 ∈ c
      · rw [if_pos ⟨hA, hB⟩, ← Int.add_assoc, ← Int.add_assoc]
        exact Ev.yes (by simpa using hB) (ih (j + 1) _ _ (by omega) (by omega) (by omega) (by omega) (by omega))
      · rw [if_neg (fun h => hB h.2), ← Int.add_assoc, Int.zero_add]
        exact Ev.no (by simpa using hB) (ih (j + 1) _ _ (by omega) (by omega) (by omega) (by omega) (by omega))
    · rw [if_neg hA, if_neg (fun h => hA h.1), Int.zero_add, Int.zero_add]
      exact Ev.no (by simpa using hA) (ih (j + 1) _ _ (by omega) (by omega) (by omega) (by omega) (by omega))
theorem closedR_ev (n : List S53) (L : List S50) (r : List S66) (e : List Int) (o c : List Int) (ho : o.length ≤ 9223372036854775807) (hc : c.length ≤ 9223372036854775807) (hL : L.length ≤ 9223372036854775807) :
    Ev (fun k => skiarearef36_Closed.f k n L r e o c) (closedV o c L) := by
  have := closedR_l0 n L r e o c ho hc hL L.length 0 0 0 (by omega) (by omega) (by omega) (by omega) (by omega)
  rw [List.drop_zero, Int.zero_add, Int.zero_add] at this
  exact this
/- Few lifts: the share is a share. -/
theorem shareV_eq {a b : Int} (h0 : 0 ≤ b) (h1 : b ≤ a) (h2 : a ≤ 32) : shareV a b = if a = 0 then 0 else b * 1000 / a := by
  unfold shareV
  split
  · rfl
  · rw [wrap_id (x := b * 1000) (by omega), Int.tdiv_eq_ediv_of_nonneg (by omega)]
    have h3 : 0 ≤ b * 1000 / a := Int.ediv_nonneg (by omega) (by omega)
    have h4 : b * 1000 / a ≤ b * 1000 := Int.ediv_le_self _ (by omega)
    exact wrap_id (by omega)
theorem closedV_bd (o c : List Int) (L : List S50) (h : L.length ≤ 32) : 0 ≤ closedV o c L ∧ closedV o c L ≤ 1000 := by
  obtain ⟨h0, h1, h2⟩ := cAB o c L
  unfold closedV
  rw [shareV_eq h0 h1 (by omega)]
  split
  · omega
  · refine ⟨Int.ediv_nonneg (by omega) (by omega), ?_⟩
    have : cB o c L * 1000 / cA o L ≤ (cA o L * 1000) / cA o L := Int.ediv_le_ediv (by omega) (by omega)
    rwa [Int.mul_ediv_cancel_left _ (by omega)] at this
theorem cB_mono (o c c' : List Int) (L : List S50) (h : ∀ x ∈ c, x ∈ c') : cB o c L ≤ cB o c' L := by
  induction L with
  | nil => simp [cB]
  | cons x xs ih =>
    unfold cB
    by_cases h1 : x.f1 ∈ o ∧ x.f0 ∈ c
    · rw [if_pos h1, if_pos ⟨h1.1, h _ h1.2⟩]; omega
    · rw [if_neg h1]; split <;> omega
theorem closedV_mono (o c c' : List Int) (L : List S50) (hL : L.length ≤ 32) (h : ∀ x ∈ c, x ∈ c') : closedV o c L ≤ closedV o c' L := by
  obtain ⟨h0, h1, h2⟩ := cAB o c L
  obtain ⟨h0', h1', h2'⟩ := cAB o c' L
  have hm := cB_mono o c c' L h
  unfold closedV
  rw [shareV_eq h0 h1 (by omega), shareV_eq h0' h1' (by omega)]
  split
  · omega
  · exact Int.ediv_le_ediv (by omega) (by omega)
theorem cB_all (o c : List Int) (L : List S50) (h : ∀ x ∈ L, x.f0 ∈ c) : cB o c L = cA o L := by
  induction L with
  | nil => simp [cB, cA]
  | cons x xs ih =>
    unfold cB cA
    rw [ih (fun y hy => h y (List.mem_cons_of_mem _ hy))]
    have := h x (List.mem_cons_self ..)
    by_cases h1 : x.f1 ∈ o
    · rw [if_pos ⟨h1, this⟩, if_pos h1]
    · rw [if_neg (fun z => h1 z.1), if_neg h1]
theorem cB_none (o : List Int) (L : List S50) : cB o [] L = 0 := by
  induction L with
  | nil => simp [cB]
  | cons x xs ih => unfold cB; rw [ih]; simp
theorem cA_some (o : List Int) (L : List S50) : (cA o L = 0) ↔ L.any (fun x => decide (x.f1 ∈ o)) = false := by
  induction L with
  | nil => simp [cA]
  | cons x xs ih =>
    have hb := (cAB o [] xs)
    unfold cA
    rw [List.any_cons]
    by_cases h1 : x.f1 ∈ o
    · rw [if_pos h1]; simp [h1]; omega
    · rw [if_neg h1]; simp only [h1, decide_false, Bool.false_or, Int.zero_add]; exact ih
theorem closedV_all (o c : List Int) (L : List S50) (hL : L.length ≤ 32) (h : ∀ x ∈ L, x.f0 ∈ c) : closedV o c L = if L.any (fun x => decide (x.f1 ∈ o)) = true then 1000 else 0 := by
  obtain ⟨h0, h1, h2⟩ := cAB o c L
  unfold closedV
  rw [shareV_eq h0 h1 (by omega), cB_all o c L h]
  cases hs : L.any (fun x => decide (x.f1 ∈ o)) with
  | false => rw [if_pos ((cA_some o L).2 hs)]; simp
  | true =>
    have hne : cA o L ≠ 0 := fun hz => by rw [(cA_some o L).1 hz] at hs; cases hs
    rw [if_neg hne, if_pos rfl, Int.mul_ediv_cancel_left _ hne]
theorem closedV_nil (o : List Int) (L : List S50) (hL : L.length ≤ 32) : closedV o [] L = 0 := by
  obtain ⟨h0, h1, h2⟩ := cAB o [] L
  unfold closedV
  rw [shareV_eq h0 h1 (by omega), cB_none]
  simp
end Go.Proofs.Ytfabkiacmbkpmaa.A
