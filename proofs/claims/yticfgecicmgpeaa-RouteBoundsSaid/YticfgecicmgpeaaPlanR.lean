/- What the route's Right and the reference's Right compute: the same number. Condition: lists that a machine can hold. -/
import Derived.Test.YticfgecicmgpeaaAx24
import Derived.Test.YticfgecicmgpeaaAx32
import Derived.Test.YticfgecicmgpeaaAx5
namespace Go.Proofs.Yticfgecicmgpeaa.Pure
open Go.RowKit Go.Proofs.Yticfgecicmgpeaa.A Go.Proofs.YticfgecicmgpeaaW.PrintWords Go.Proofs.YticfgecicmgpeaaW.PrintLast Go.Proofs.YticfgecicmgpeaaW.PrintMore
set_option linter.unusedVariables false
set_option linter.unusedSimpArgs false
def rngB (t : S34) : Bool := decide (t.f0 < 1 ∨ t.f0 > 9999 ∨ t.f1 < 1 ∨ t.f1 > 86400 ∨ (t.f3.length : Int) > 6)
def dupB (l : List S34) (j : Nat) : Bool := (l.take j).any (hasRun (rd_T34 l j).f0)
def anyB (win : List Bool) : Bool := win.any id
def rLoop (l : List S34) (win : List Bool) : Nat → Nat → Int
  | 0, _ => 0
  | d + 1, j => if rngB (rd_T34 l j) = true then 2 else if dupB l j = true then 7 else if (rd_T34 l j).f2 = true ∧ anyB win = false then 13 else rLoop l win d (j + 1)
/-- The first error. -/
def rightV (l : List S34) (win : List Bool) : Int := if (l.length : Int) > 6 ∨ (win.length : Int) > 3 then 4 else if win.length = 0 then 8 else rLoop l win l.length 0
theorem hasb_l0 (l : List Bool) (hl : l.length ≤ 9223372036854775807) (d : Nat) : ∀ j : Nat, l.length - j = d → j ≤ l.length → ∃ r : Int, Ev (fun k => slices_Index_bool_bool.l0 k l true l.length j) r ∧ (decide (r ≥ 0) = (l.drop j).any id) := by
  induction d with
  | zero =>
    intro j hd hj
    obtain rfl : j = l.length := by omega
    exact ⟨-1, Ev.step (fun k => by rw [slices_Index_bool_bool.l0, if_neg (by omega)]) (Ev.now _), by simp⟩
  | succ d ih =>
    intro j hd hj
    have hlt : j < l.length := by omega
    have hr : rdOf false l j = l[j] := by simp [rdOf, List.getElem?_eq_getElem hlt]
    rw [List.drop_eq_getElem_cons hlt, List.any_cons]
    by_cases he : l[j] = true
    · exact ⟨j, Ev.step (fun k => by rw [slices_Index_bool_bool.l0, if_pos (by omega), if_pos (by omega), if_pos (by omega), hr, he, if_pos (by decide)]) (Ev.now _), by rw [he, decide_eq_true (by omega)]; rfl⟩
    · obtain ⟨r, hE, hr2⟩ := ih (j + 1) (by omega) (by omega)
      have he' : l[j] = false := by simpa using he
      exact ⟨r, Ev.step (fun k => by rw [slices_Index_bool_bool.l0, if_pos (by omega), if_pos (by omega), if_pos (by omega), hr, he', if_neg (by decide), wS j _ hl (by omega)]) hE, by rw [hr2, he']; rfl⟩
theorem hasb_ev (l : List Bool) (hl : l.length ≤ 9223372036854775807) : Ev (fun k => slices_Contains_bool_bool.f k l true) (anyB l) := by
  obtain ⟨r, hE, hr⟩ := hasb_l0 l hl l.length 0 (by omega) (by omega)
  rw [List.drop_zero] at hr
  rw [anyB, ← hr]
  exact Ev.bind hE (Ev.now _)
theorem rng_yes {t : S34} (h : t.f0 < 1 ∨ t.f0 > 9999 ∨ t.f1 < 1 ∨ t.f1 > 86400 ∨ (t.f3.length : Int) > 6) : true = rngB t := (decide_eq_true h).symm
theorem task_take (l : List S34) (j : Nat) : (decide (taskV (l.take j) (rd_T34 l j).f0 ≥ 0)) = dupB l j := by
  unfold taskV dupB runAt
  by_cases h : ∃ x ∈ l.take j, hasRun (rd_T34 l j).f0 x = true
  · rw [if_pos (List.findIdx_lt_length.2 h), List.any_eq_true.2 h, decide_eq_true (by omega)]
  · rw [if_neg (fun c => h (List.findIdx_lt_length.1 c)), decide_eq_false (by omega)]
    exact (Bool.eq_false_iff.2 fun c => h (List.any_eq_true.1 c)).symm
theorem route_l0 (l : List S34) (win : List Bool) (hl : l.length ≤ 9223372036854775807) (hw : win.length ≤ 9223372036854775807) : ∀ (d j : Nat), l.length - j = d → j ≤ l.length → Ev (fun k => route_Right.l0 k l win l l.length j) (rLoop l win d j)
  | 0, j, hd, hj => by
    obtain rfl : j = l.length := by omega
    rw [rLoop]
    exact Ev.step (fun k => by rw [route_Right.l0, if_neg (by omega)]) (Ev.now _)
  | d + 1, j, hd, hj => by
    have ih := route_l0 l win hl hw d (j + 1) (by omega) (by omega)
    have hj2 : ∀ b, b = rngB (rd_T34 l j) → Ev (fun k => route_Right.j2 k l win j l l.length j b ((rd_T34 l j).f0) ((rd_T34 l j).f1) ((rd_T34 l j).f2) ((rd_T34 l j).f3)) (rLoop l win (d + 1) j) := by
      intro b hb
      rw [rLoop, ← hb]
      refine Ev.step (fun k => by rw [route_Right.j2]) ?_
      by_cases h : b = true
      · rw [if_pos h]; exact Ev.yes h (Ev.now _)
      · rw [if_neg h]
        refine Ev.no h (Ev.yes (by omega) (Ev.yes (by omega) ?_))
        refine Ev.bind (a := taskV (l.take j) (rd_T34 l j).f0) (Ev.now _) ?_
        have ht := task_take l j
        by_cases h2 : dupB l j = true
        · rw [if_pos h2]; exact Ev.yes (of_decide_eq_true (by rw [ht]; exact h2)) (Ev.now _)
        · rw [if_neg h2]
          refine Ev.no (fun c => h2 (by rw [← ht]; exact decide_eq_true c)) ?_
          have hn : wrap64 ((j : Int) + 1) = ((j + 1 : Nat) : Int) := wS j _ hl (by omega)
          rw [hn]
          by_cases h3 : (rd_T34 l j).f2 = true
          · refine Ev.yes h3 (Ev.bind (hasb_ev win hw) ?_)
            by_cases h4 : anyB win = true
            · rw [if_neg (by rw [h4]; simp)]; exact Ev.yes h4 ih
            · rw [if_pos ⟨h3, by simpa using h4⟩]; exact Ev.no h4 (Ev.now _)
          · rw [if_neg (fun c => h3 c.1)]; exact Ev.no h3 ih
    refine Ev.step (fun k => by rw [route_Right.l0, if_pos (by omega), if_pos (by omega), if_pos (by omega)]) ?_
    refine Ev.ite (fun h => hj2 _ (rng_yes (.inl h))) fun h1 => Ev.ite (fun h => hj2 _ (rng_yes (.inr (.inl h)))) fun h2 => Ev.ite (fun h => hj2 _ (rng_yes (.inr (.inr (.inl h))))) fun h3 => Ev.ite (fun h => hj2 _ (rng_yes (.inr (.inr (.inr (.inl h)))))) fun h4 => hj2 _ ?_
    unfold rngB
    rw [decide_eq_decide]
    exact ⟨fun h => .inr (.inr (.inr (.inr h))), fun h => h.resolve_left h1 |>.resolve_left h2 |>.resolve_left h3 |>.resolve_left h4⟩
theorem right_ev (l : List S34) (win : List Bool) (hl : l.length ≤ 9223372036854775807) (hw : win.length ≤ 9223372036854775807) : Ev (fun k => route_Right.f k l win) (rightV l win) := by
  have hj : ∀ b, (b = decide ((l.length : Int) > 6 ∨ (win.length : Int) > 3)) → Ev (fun k => route_Right.j0 k l win b) (rightV l win) := by
    intro b hb
    refine Ev.step (fun k => by rw [route_Right.j0]) ?_
    unfold rightV
    by_cases h : (l.length : Int) > 6 ∨ (win.length : Int) > 3
    · rw [if_pos h]; rw [decide_eq_true h] at hb; exact Ev.yes hb (Ev.now _)
    · rw [if_neg h]; rw [decide_eq_false h] at hb; subst hb
      refine Ev.no (by decide) ?_
      by_cases h2 : win.length = 0
      · rw [if_pos h2]; exact Ev.yes (by omega) (Ev.now _)
      · rw [if_neg h2]; exact Ev.no (by omega) (route_l0 l win hl hw l.length 0 (by omega) (by omega))
  refine Ev.ite (fun h => hj _ (decide_eq_true (.inl h)).symm) fun h => hj _ ?_
  rw [decide_eq_decide]
  exact ⟨.inr, fun c => c.resolve_left h⟩
theorem take_any {l : List S34} {x : Int} {k : Nat} (hk : k < l.length) : (l.take (k + 1)).any (hasRun x) = ((l.take k).any (hasRun x) || hasRun x (rd_T34 l k)) := by
  rw [List.take_succ_eq_append_getElem hk, List.any_append, rdT_get hk]
  simp
theorem ref_l2 (l : List S34) (any : Bool) (v : Int) (j : Nat) (hl : l.length ≤ 9223372036854775807) (hj : j < l.length) (hno : (rd_T34 l j).f2 = true ∧ any = false → v = 13) (hgo : ¬ ((rd_T34 l j).f2 = true ∧ any = false) → Ev (fun k => skiarearef47_Right.l1 k l any ((j + 1 : Nat) : Int)) v) : ∀ (d m : Nat), j - m = d → m ≤ j → (l.take m).any (hasRun (rd_T34 l j).f0) = false → Ev (fun k => skiarearef47_Right.l2 k l any j m) (if dupB l j = true then 7 else v)
  | 0, m, hd, hm, hf => by
    obtain rfl : m = j := by omega
    rw [if_neg (by unfold dupB; rw [hf]; decide)]
    have hn : wrap64 ((m : Int) + 1) = ((m + 1 : Nat) : Int) := wS m _ hl (by omega)
    refine Ev.step (fun k => by rw [skiarearef47_Right.l2, if_neg (by omega), if_pos (by omega), if_pos (by omega), hn]) ?_
    by_cases h3 : (rd_T34 l m).f2 = true
    · refine Ev.yes h3 ?_
      by_cases h4 : any = true
      · exact Ev.yes h4 (hgo fun c => by rw [h4] at c; simp at c)
      · rw [hno ⟨h3, by simpa using h4⟩]; exact Ev.no h4 (Ev.now _)
    · exact Ev.no h3 (hgo fun c => h3 c.1)
  | d + 1, m, hd, hm, hf => by
    have hn : wrap64 ((m : Int) + 1) = ((m + 1 : Nat) : Int) := wS m _ hl (by omega)
    refine Ev.step (fun k => by rw [skiarearef47_Right.l2, if_pos (by omega), if_pos (by omega), if_pos (by omega), if_pos (by omega), if_pos (by omega), hn]) ?_
    have hmt : (l.take (m + 1)).any (hasRun (rd_T34 l j).f0) = hasRun (rd_T34 l j).f0 (rd_T34 l m) := by rw [take_any (by omega), hf]; rfl
    by_cases he : (rd_T34 l m).f0 = (rd_T34 l j).f0
    · have hd : dupB l j = true := by
        unfold dupB
        rw [List.any_eq_true]
        refine ⟨rd_T34 l m, ?_, by simp [hasRun, he]⟩
        rw [rdT_get (show m < l.length by omega), List.mem_take_iff_getElem]
        exact ⟨m, by omega, rfl⟩
      rw [if_pos hd]
      exact Ev.yes he (Ev.now _)
    · exact Ev.no he (ref_l2 l any v j hl hj hno hgo d (m + 1) (by omega) (by omega) (by rw [hmt]; simpa [hasRun] using he))
theorem ref_l1 (l : List S34) (win : List Bool) (hl : l.length ≤ 9223372036854775807) : ∀ (d j : Nat), l.length - j = d → j ≤ l.length → Ev (fun k => skiarearef47_Right.l1 k l (anyB win) j) (rLoop l win d j)
  | 0, j, hd, hj => by
    obtain rfl : j = l.length := by omega
    rw [rLoop]
    exact Ev.step (fun k => by rw [skiarearef47_Right.l1, if_neg (by omega)]) (Ev.now _)
  | d + 1, j, hd, hj => by
    have ih := ref_l1 l win hl d (j + 1) (by omega) (by omega)
    have hj2 : ∀ b, b = rngB (rd_T34 l j) → Ev (fun k => skiarearef47_Right.j3 k l (anyB win) j b) (rLoop l win (d + 1) j) := by
      intro b hb
      rw [rLoop, ← hb]
      refine Ev.step (fun k => by rw [skiarearef47_Right.j3]) ?_
      by_cases h : b = true
      · rw [if_pos h]; exact Ev.yes h (Ev.now _)
      · rw [if_neg h]
        refine Ev.no h (ref_l2 l (anyB win) _ j hl (by omega) (fun c => if_pos c) (fun c => ?_) j 0 (by omega) (by omega) rfl)
        rw [if_neg c]; exact ih
    refine Ev.step (fun k => by rw [skiarearef47_Right.l1, if_pos (by omega), if_pos (by omega)]) ?_
    refine Ev.ite (fun h => hj2 _ (rng_yes (.inl h))) fun h1 => Ev.ite (fun h => hj2 _ (rng_yes (.inr (.inl h)))) fun h2 => Ev.ite (fun h => hj2 _ (rng_yes (.inr (.inr (.inl h))))) fun h3 => Ev.ite (fun h => hj2 _ (rng_yes (.inr (.inr (.inr (.inl h)))))) fun h4 => hj2 _ ?_
    unfold rngB
    rw [decide_eq_decide]
    exact ⟨fun h => .inr (.inr (.inr (.inr h))), fun h => h.resolve_left h1 |>.resolve_left h2 |>.resolve_left h3 |>.resolve_left h4⟩
theorem ref_l0 (l : List S34) (win : List Bool) (v : Int) (hw : win.length ≤ 9223372036854775807) (hv : Ev (fun k => skiarearef47_Right.l1 k l (anyB win) (0 : Nat)) v) : ∀ (d j : Nat), win.length - j = d → j ≤ win.length → Ev (fun k => skiarearef47_Right.l0 k l win ((win.take j).any id) j) v
  | 0, j, hd, hj => by
    obtain rfl : j = win.length := by omega
    rw [List.take_length]
    exact Ev.step (fun k => by rw [skiarearef47_Right.l0, if_neg (by omega)]; rfl) hv
  | d + 1, j, hd, hj => by
    have ih := ref_l0 l win v hw hv d (j + 1) (by omega) (by omega)
    have hlt : j < win.length := by omega
    have hr : rdOf false win j = win[j] := by simp [rdOf, List.getElem?_eq_getElem hlt]
    have hn : wrap64 ((j : Int) + 1) = ((j + 1 : Nat) : Int) := wS j _ hw (by omega)
    have ht : (win.take (j + 1)).any id = ((win.take j).any id || rdOf false win j) := by
      rw [List.take_succ_eq_append_getElem hlt, List.any_append, hr]; simp
    refine Ev.step (fun k => by rw [skiarearef47_Right.l0, if_pos (by omega), hn]) ?_
    rw [ht] at ih
    by_cases h : (win.take j).any id = true
    · rw [h] at ih; rw [h]; exact Ev.yes rfl ih
    · have h' : (win.take j).any id = false := by simpa using h
      rw [h'] at ih; rw [h']; exact Ev.no (by decide) (Ev.yes (by omega) ih)
theorem rright_ev (l : List S34) (win : List Bool) (hl : l.length ≤ 9223372036854775807) (hw : win.length ≤ 9223372036854775807) : Ev (fun k => skiarearef47_Right.f k l win) (rightV l win) := by
  have hj : ∀ b, (b = decide ((l.length : Int) > 6 ∨ (win.length : Int) > 3)) → Ev (fun k => skiarearef47_Right.j0 k l win b) (rightV l win) := by
    intro b hb
    refine Ev.step (fun k => by rw [skiarearef47_Right.j0]) ?_
    unfold rightV
    by_cases h : (l.length : Int) > 6 ∨ (win.length : Int) > 3
    · rw [if_pos h]; rw [decide_eq_true h] at hb; exact Ev.yes hb (Ev.now _)
    · rw [if_neg h]; rw [decide_eq_false h] at hb; subst hb
      refine Ev.no (by decide) ?_
      by_cases h2 : win.length = 0
      · rw [if_pos h2]; exact Ev.yes (by omega) (Ev.now _)
      · rw [if_neg h2]; exact Ev.no (by omega) (ref_l0 l win _ hw (ref_l1 l win hl l.length 0 (by omega) (by omega)) win.length 0 (by omega) (by omega))
  refine Ev.ite (fun h => hj _ (decide_eq_true (.inl h)).symm) fun h => hj _ ?_
  rw [decide_eq_decide]
  exact ⟨.inr, fun c => c.resolve_left h⟩
end Go.Proofs.Yticfgecicmgpeaa.Pure
