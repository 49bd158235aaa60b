/- What the route's Valid computes, what a plan is that both Valids accept, what Right accepts. Condition: lists that a machine can hold. -/
import Derived.Test.YticfgecicmgpeaaAx28
import Derived.Test.YticfgecicmgpeaaPlanB
import Derived.Test.YticfgecicmgpeaaPlanR
namespace Go.Proofs.Yticfgecicmgpeaa.Pure
open Go.RowKit Go.Proofs.Yticfgecicmgpeaa.A Go.Proofs.YticfgecicmgpeaaW.PrintWords Go.Proofs.YticfgecicmgpeaaW.PrintLast Go.Proofs.YticfgecicmgpeaaW.PrintMore
set_option linter.unusedVariables false
set_option linter.unusedSimpArgs false
theorem rLoop_ok {l : List S34} {win : List Bool} : ∀ (d j : Nat), rLoop l win d j = 0 → ∀ i, j ≤ i → i < j + d → rngB (rd_T34 l i) = false ∧ dupB l i = false ∧ ((rd_T34 l i).f2 = true → anyB win = true)
  | 0, j, _, i, h1, h2 => by omega
  | d + 1, j, h, i, h1, h2 => by
    rw [rLoop] at h
    split at h
    · cases h
    · rename_i c1
      split at h
      · cases h
      · rename_i c2
        split at h
        · cases h
        · rename_i c3
          by_cases e : i = j
          · subst e
            exact ⟨by simpa using c1, by simpa using c2, fun q => by
              by_cases w : anyB win = true
              · exact w
              · exact absurd ⟨q, by simpa using w⟩ c3⟩
          · exact rLoop_ok d (j + 1) h i (by omega) (by omega)
theorem right_ok {l : List S34} {win : List Bool} (h : rightV l win = 0) : OKL l win := by
  unfold rightV at h
  split at h
  · cases h
  · rename_i c1
    split at h
    · cases h
    · rename_i c2
      have hi := fun i (hi : i < l.length) => rLoop_ok l.length 0 h i (Nat.zero_le _) (by omega)
      refine ⟨by omega, by omega, by omega, fun x hx => ?_, ?_⟩
      · obtain ⟨i, hil, rfl⟩ := List.getElem_of_mem hx
        obtain ⟨h1, h2, h3⟩ := hi i hil
        rw [rdT_get hil] at h1 h3
        unfold rngB at h1
        have h1' := of_decide_eq_false h1
        refine ⟨by omega, by omega, by omega, by omega, by omega, fun q => ?_⟩
        obtain ⟨w, hw, e⟩ := List.any_eq_true.1 (h3 q)
        have e' : w = true := e
        rw [← e']; exact hw
      · rw [List.pairwise_iff_getElem]
        intro i j hil hjl hij e
        obtain ⟨_, h2, _⟩ := hi j hjl
        unfold dupB at h2
        rw [List.any_eq_false] at h2
        refine h2 l[i] ?_ ?_
        · rw [List.mem_take_iff_getElem]; exact ⟨i, by omega, rfl⟩
        · rw [rdT_get hjl]; simpa [hasRun] using e
theorem fits_iff {l : List S34} {win : List Bool} (ok : OKL l win) {a : S37} (ha : a.f3 ≤ 9223372036854775807) : fitsB l win a = true ↔ Fit l win a := by
  unfold fitsB Fit tk
  simp only [Bool.and_eq_true, Bool.or_eq_true, decide_eq_true_eq, Bool.not_eq_true']
  constructor
  · rintro ⟨⟨h1, h2, h3, h4, h5⟩, h6, h7⟩
    rw [wrap_id (by omega)] at h6
    exact ⟨h1, h2, h3, h4, by omega, h7⟩
  · rintro ⟨h1, h2, h3, h4, h6, h7⟩
    have hd := ok.each _ (tk_mem h1)
    unfold tk at hd
    refine ⟨⟨h1, h2, h3, h4, by omega⟩, ?_, h7⟩
    rw [wrap_id (by omega)]
    omega
theorem bad_iff {l : List S34} {a b : S37} : badB l a b = false ↔ Sep l a b := by
  unfold badB overB Sep Cf tk
  simp only [Bool.or_eq_false_iff, Bool.and_eq_false_iff, beq_eq_false_iff_ne, decide_eq_false_iff_not, ne_eq]
  constructor
  · rintro ⟨h1, h2⟩
    refine ⟨h1, fun c => ?_⟩
    rcases h2 with (h | h) | ⟨h3, h4⟩
    · omega
    · omega
    · rcases c with c | c
      · exact absurd c h3
      · rw [h4] at c; cases c
  · rintro ⟨h1, h2⟩
    refine ⟨h1, ?_⟩
    by_cases c : a.f0 = b.f0 ∨ clashT (rd_T34 l (runAt l a.f1 : Nat)) (rd_T34 l (runAt l b.f1 : Nat)) = true
    · have := h2 c; left; omega
    · right
      exact ⟨fun q => c (.inl q), by
        by_cases w : clashT (rd_T34 l (runAt l a.f1 : Nat)) (rd_T34 l (runAt l b.f1 : Nat)) = true
        · exact absurd (.inr w) c
        · simpa using w⟩
theorem rvK_iff {l : List S34} {plan : List S37} {i : Nat} : ∀ k, rvK l plan i k = true ↔ ∀ j : Nat, j < k → Sep l (rd_T37 plan i) (rd_T37 plan j)
  | 0 => ⟨fun _ j hj => by omega, fun _ => rfl⟩
  | k + 1 => by
    rw [rvK, Bool.and_eq_true, rvK_iff k, Bool.not_eq_true', bad_iff]
    constructor
    · rintro ⟨h1, h2⟩ j hj
      by_cases e : j = k
      · subst e; exact h2
      · exact h1 j (by omega)
    · exact fun h => ⟨fun j hj => h j (by omega), h k (by omega)⟩
theorem rvTo_iff {l : List S34} {win : List Bool} {plan : List S37} : ∀ k, rvTo l win plan k = true ↔ ∀ i : Nat, i < k → fitsB l win (rd_T37 plan i) = true ∧ ∀ j : Nat, j < i → Sep l (rd_T37 plan i) (rd_T37 plan j)
  | 0 => ⟨fun _ j hj => by omega, fun _ => rfl⟩
  | k + 1 => by
    rw [rvTo, Bool.and_eq_true, Bool.and_eq_true, rvTo_iff k, rvK_iff]
    constructor
    · rintro ⟨h1, h2⟩ j hj
      by_cases e : j = k
      · subst e; exact h2
      · exact h1 j (by omega)
    · exact fun h => ⟨fun j hj => h j (by omega), h k (by omega)⟩
/-- What both Valids accept. -/
theorem rval_iff {l : List S34} {win : List Bool} (ok : OKL l win) {plan : List S37} (hp : ∀ a ∈ plan, a.f3 ≤ 9223372036854775807) : rvalV l win plan = true ↔ VP l win plan := by
  unfold rvalV VP Good
  rw [Bool.and_eq_true, beq_iff_eq, rvTo_iff, List.pairwise_iff_getElem]
  refine and_congr_right fun _ => ⟨fun h => ⟨fun a ha => ?_, fun i j hi hj hij => ?_⟩, fun h i hi => ⟨?_, fun j hj => ?_⟩⟩
  · obtain ⟨i, hi, rfl⟩ := List.getElem_of_mem ha
    have := (h i hi).1
    rw [rd37_get hi] at this
    exact (fits_iff ok (hp _ ha)).1 this
  · have := (h j hj).2 i hij
    rw [rd37_get hi, rd37_get hj] at this
    exact this.symm
  · rw [rd37_get hi]
    exact (fits_iff ok (hp _ (List.getElem_mem hi))).2 (h.1 _ (List.getElem_mem hi))
  · have hjl : j < plan.length := by omega
    rw [rd37_get hi, rd37_get hjl]
    exact (h.2 j i hjl hi hj).symm
theorem alone_t (l : List S34) (t a b c d : Int) : Ev (fun k => route_alone.j0 k l t true a b c d) (0, false) := Ev.step (fun k => by rw [route_alone.j0, if_pos rfl]) (Ev.now _)
theorem alone_f (l : List S34) (i : Nat) (hi : i < l.length) (a b c d : Int) : Ev (fun k => route_alone.j0 k l i false a b c d) ((i : Int), (decide (0 ≤ c ∧ c ≤ d) && decide (wrap64 (d - c) = (rd_T34 l i).f1))) := by
  refine Ev.step (fun k => by rw [route_alone.j0, if_neg (by decide)]) ?_
  by_cases h1 : 0 ≤ c
  · refine Ev.yes h1 ?_
    by_cases h2 : c ≤ d
    · refine Ev.yes h2 (Ev.yes (by omega) (Ev.yes (by omega) (Ev.val ?_)))
      rw [decide_eq_true (show 0 ≤ c ∧ c ≤ d from ⟨h1, h2⟩), Bool.true_and]
      rfl
    · refine Ev.no h2 (Ev.val ?_)
      rw [decide_eq_false (fun q => h2 q.2)]; rfl
  · refine Ev.no h1 (Ev.val ?_)
    rw [decide_eq_false (fun q => h1 q.1)]; rfl
theorem alone_ev (l : List S34) (win : List Bool) (hw : win.length ≤ 100) (a : S37) : ∃ i : Int, Ev (fun k => route_alone.f k l win a.f0 a.f1 a.f2 a.f3) (i, fitsB l win a) ∧ (fitsB l win a = true → i = runAt l a.f1) := by
  by_cases hr : runAt l a.f1 < l.length ∧ 1 ≤ a.f0 ∧ a.f0 ≤ win.length
  · have ht : taskV l a.f1 = (runAt l a.f1 : Int) := if_pos hr.1
    have hw1 : wrap64 (a.f0 - 1) = a.f0 - 1 := wrap_id (by omega)
    have hfit : ∀ x : Bool, (x = (rdOf false win (a.f0 - 1) || !(rd_T34 l (runAt l a.f1 : Nat)).f2)) → fitsB l win a = (x && (decide (0 ≤ a.f2 ∧ a.f2 ≤ a.f3) && decide (wrap64 (a.f3 - a.f2) = (rd_T34 l (runAt l a.f1 : Nat)).f1))) := by
      intro x hx
      unfold fitsB
      rw [← hx]
      by_cases h : 0 ≤ a.f2 ∧ a.f2 ≤ a.f3
      · rw [decide_eq_true h, decide_eq_true ⟨hr.1, hr.2.1, hr.2.2, h⟩, Bool.true_and, Bool.true_and, Bool.and_comm]
      · rw [decide_eq_false h, decide_eq_false (fun q => h q.2.2.2), Bool.false_and, Bool.false_and, Bool.and_false]
    have hgo : ∀ x : Bool, (x = (rdOf false win (a.f0 - 1) || !(rd_T34 l (runAt l a.f1 : Nat)).f2)) → ∃ i : Int, Ev (fun k => route_alone.j0 k l (runAt l a.f1 : Nat) (!x) a.f0 a.f1 a.f2 a.f3) (i, fitsB l win a) ∧ (fitsB l win a = true → i = runAt l a.f1) := by
      intro x hx
      rw [hfit x hx]
      cases x with
      | true => exact ⟨_, alone_f l _ hr.1 _ _ _ _, fun _ => rfl⟩
      | false => exact ⟨0, alone_t l _ _ _ _ _, fun h => by cases h⟩
    have pre : ∀ {i : Int} (x : Bool), (∀ f : Nat → Option (Int × Bool), Ev f (i, fitsB l win a) → Ev f (i, fitsB l win a)) := fun _ _ h => h
    by_cases h2 : (rd_T34 l (runAt l a.f1 : Nat)).f2 = true
    · obtain ⟨i, hE, hi⟩ := hgo (rdOf false win (a.f0 - 1)) (by rw [h2]; simp)
      refine ⟨i, Ev.bind (a := taskV l a.f1) (Ev.now _) ?_, hi⟩
      rw [ht, hw1]
      exact Ev.no (by omega) (Ev.no (by omega) (Ev.no (by omega) (Ev.yes (by omega) (Ev.yes (by omega) (Ev.yes h2 (Ev.yes (by omega) (Ev.yes (by omega) hE)))))))
    · obtain ⟨i, hE, hi⟩ := hgo true (by simp at h2; rw [h2]; simp)
      refine ⟨i, Ev.bind (a := taskV l a.f1) (Ev.now _) ?_, hi⟩
      rw [ht]
      exact Ev.no (by omega) (Ev.no (by omega) (Ev.no (by omega) (Ev.yes (by omega) (Ev.yes (by omega) (Ev.no h2 hE)))))
  · have hf : fitsB l win a = false := by
      unfold fitsB
      rw [decide_eq_false (fun q => hr ⟨q.1, q.2.1, q.2.2.1⟩)]
      rfl
    refine ⟨0, Ev.bind (a := taskV l a.f1) (Ev.now _) ?_, fun h => by rw [hf] at h; cases h⟩
    rw [hf]
    refine Ev.ite (fun _ => alone_t l _ _ _ _ _) fun c1 => Ev.ite (fun _ => alone_t l _ _ _ _ _) fun c2 => Ev.ite (fun _ => alone_t l _ _ _ _ _) fun c3 => absurd ⟨?_, by omega, by omega⟩ hr
    unfold taskV at c1
    split at c1
    · assumption
    · omega
theorem rd_take {xs : List S37} {j m : Nat} (h : m < j) : rd_T37 (xs.take j) m = rd_T37 xs m := by simp [rd_T37, List.getElem?_take, h]
theorem valid_l1 {l : List S34} {win : List Bool} (ok : OKL l win) {plan : List S37} {j : Nat} (hn : plan.length ≤ 9223372036854775807) (hj : j < plan.length) (hT : rvTo l win plan j = true) (hF : fitsB l win (rd_T37 plan j) = true)
    (hgo : rvTo l win plan (j + 1) = true → Ev (fun k => route_Valid.l0 k l win plan plan plan.length ((j + 1 : Nat) : Int)) (rvTo l win plan plan.length)) :
    ∀ (d m : Nat), j - m = d → m ≤ j → rvK l plan j m = true → Ev (fun k => route_Valid.l1 k l win plan (runAt l (rd_T37 plan j).f1 : Nat) plan plan.length j (plan.take j) j m (rd_T37 plan j).f0 (rd_T37 plan j).f1 (rd_T37 plan j).f2 (rd_T37 plan j).f3) (rvTo l win plan plan.length)
  | 0, m, hd, hm, hK => by
    obtain rfl : m = j := by omega
    have hw : wrap64 ((m : Int) + 1) = ((m + 1 : Nat) : Int) := wS m _ hn (by omega)
    refine Ev.step (fun k => by rw [route_Valid.l1, if_neg (by omega), hw]) (hgo ?_)
    rw [rvTo, hT, hF, hK]; rfl
  | d + 1, m, hd, hm, hK => by
    have hmj : m < j := by omega
    have hlen : ((plan.take j).length : Int) = j := by rw [List.length_take]; omega
    have hw : wrap64 ((m : Int) + 1) = ((m + 1 : Nat) : Int) := wS m _ hn (by omega)
    obtain ⟨i, hE, hi⟩ := alone_ev l win (by have := ok.wlen; omega) (rd_T37 plan m)
    have hfm := rv_in hT m hmj
    rw [hfm] at hE
    obtain rfl := hi hfm
    have hra := fits_in hF
    have hrb := fits_in hfm
    have hno : badB l (rd_T37 plan j) (rd_T37 plan m) = true → rvTo l win plan plan.length = false := fun hb => by
      have h1 := rvK_no (l := l) (plan := plan) (i := j) (k := m + 1) (by rw [rvK, hb]; simp) (j - (m + 1))
      rw [show m + 1 + (j - (m + 1)) = j by omega] at h1
      have := rvTo_no (l := l) (win := win) (plan := plan) (k := j + 1) (by rw [rvTo, h1]; simp) (plan.length - (j + 1))
      rw [show j + 1 + (plan.length - (j + 1)) = plan.length by omega] at this
      exact this
    have ih := valid_l1 ok hn hj hT hF hgo d (m + 1) (by omega) (by omega)
    have hj2 : ∀ b, b = badB l (rd_T37 plan j) (rd_T37 plan m) → Ev (fun k => route_Valid.j2 k l win plan (runAt l (rd_T37 plan j).f1 : Nat) plan plan.length j (plan.take j) j m b (rd_T37 plan j).f0 (rd_T37 plan j).f1 (rd_T37 plan j).f2 (rd_T37 plan j).f3) (rvTo l win plan plan.length) := by
      intro b hb
      refine Ev.step (fun k => by rw [route_Valid.j2, hw]) ?_
      by_cases h : b = true
      · rw [hno (by rw [← hb]; exact h)]; exact Ev.yes h (Ev.now _)
      · exact Ev.no h (ih (by rw [rvK, hK, ← hb]; simpa using h))
    refine Ev.step (fun k => by rw [route_Valid.l1, if_pos (by omega), if_pos (by omega), if_pos (by omega), rd_take hmj]) (Ev.bind hE ?_)
    by_cases h1 : (rd_T37 plan j).f1 = (rd_T37 plan m).f1
    · have e : ((runAt l (rd_T37 plan j).f1 : Nat) : Int) = (runAt l (rd_T37 plan m).f1 : Nat) := by rw [h1]
      exact Ev.yes e (hj2 true (by unfold badB; rw [h1]; simp))
    · have e : ¬ ((runAt l (rd_T37 plan j).f1 : Nat) : Int) = (runAt l (rd_T37 plan m).f1 : Nat) := fun q => by
        have q' : runAt l (rd_T37 plan j).f1 = runAt l (rd_T37 plan m).f1 := by omega
        have e1 := beq_iff_eq.1 (run_here hra)
        have e2 := beq_iff_eq.1 (run_here hrb)
        rw [q'] at e1
        exact h1 (e1.symm.trans e2)
      refine Ev.no e ?_
      have e1 : ((rd_T37 plan j).f1 == (rd_T37 plan m).f1) = false := by simpa using h1
      by_cases o1 : (rd_T37 plan j).f2 < (rd_T37 plan m).f3
      · refine Ev.yes o1 ?_
        by_cases o2 : (rd_T37 plan m).f2 < (rd_T37 plan j).f3
        · refine Ev.yes o2 ?_
          by_cases g : (rd_T37 plan j).f0 = (rd_T37 plan m).f0
          · exact Ev.yes g (hj2 true (by unfold badB overB; rw [e1, decide_eq_true o1, decide_eq_true o2, g]; simp))
          · have g1 : ((rd_T37 plan j).f0 == (rd_T37 plan m).f0) = false := by simpa using g
            have hla : ∀ {i : Nat}, i < l.length → (rd_T34 l i).f3.length ≤ 9223372036854775807 := fun {i} hi => by
              have := ok.each (rd_T34 l i) (by rw [rdT_get hi]; exact List.getElem_mem hi)
              omega
            refine Ev.no g (Ev.yes (by omega) (Ev.yes (by omega) (Ev.yes (by show (0 : Int) ≤ ((runAt l (rd_T37 plan m).f1 : Nat) : Int); omega) (Ev.yes (by show ((runAt l (rd_T37 plan m).f1 : Nat) : Int) < l.length; omega) (Ev.bind (clash_ev _ _ (hla hra) (hla hrb)) (hj2 _ ?_))))))
            unfold badB overB
            rw [e1, decide_eq_true o1, decide_eq_true o2, g1]
            simp
        · exact Ev.no o2 (hj2 false (by unfold badB overB; rw [e1, decide_eq_false o2]; simp))
      · exact Ev.no o1 (hj2 false (by unfold badB overB; rw [e1, decide_eq_false o1]; simp))
theorem valid_l0 {l : List S34} {win : List Bool} (ok : OKL l win) {plan : List S37} (hn : plan.length ≤ 9223372036854775807) : ∀ (d j : Nat), plan.length - j = d → j ≤ plan.length → rvTo l win plan j = true → Ev (fun k => route_Valid.l0 k l win plan plan plan.length j) (rvTo l win plan plan.length)
  | 0, j, hd, hj, hT => by
    obtain rfl : j = plan.length := by omega
    rw [hT]
    exact Ev.step (fun k => by rw [route_Valid.l0, if_neg (by omega)]) (Ev.now _)
  | d + 1, j, hd, hj, hT => by
    have hlt : j < plan.length := by omega
    have ih := valid_l0 ok hn d (j + 1) (by omega) (by omega)
    obtain ⟨i, hE, hi⟩ := alone_ev l win (by have := ok.wlen; omega) (rd_T37 plan j)
    refine Ev.step (fun k => by rw [route_Valid.l0, if_pos (by omega), if_pos (by omega), if_pos (by omega)]) (Ev.bind hE ?_)
    by_cases hF : fitsB l win (rd_T37 plan j) = true
    · obtain rfl := hi hF
      refine Ev.yes hF (Ev.yes (by omega) (Ev.bind (a := plan.take j) (Ev.now _) ?_))
      have hlen : ((plan.take j).length : Int) = j := by rw [List.length_take]; omega
      rw [hlen]
      exact valid_l1 ok hn hlt hT hF ih j 0 (by omega) (by omega) rfl
    · have hno : rvTo l win plan plan.length = false := by
        have hF' : fitsB l win (rd_T37 plan j) = false := by simpa using hF
        have := rvTo_no (l := l) (win := win) (plan := plan) (k := j + 1) (by rw [rvTo, hF']; simp) (plan.length - (j + 1))
        rw [show j + 1 + (plan.length - (j + 1)) = plan.length by omega] at this
        exact this
      rw [hno]
      exact Ev.no hF (Ev.now _)
theorem valid_ev {l : List S34} {win : List Bool} (ok : OKL l win) {plan : List S37} (hn : plan.length ≤ 9223372036854775807) : Ev (fun k => route_Valid.f k l win plan) (rvalV l win plan) := by
  unfold rvalV
  by_cases h : plan.length = l.length
  · rw [show (plan.length == l.length) = true by simpa using h, Bool.true_and]
    exact Ev.yes (by omega) (valid_l0 ok hn plan.length 0 (by omega) (by omega) rfl)
  · rw [show (plan.length == l.length) = false by simpa using h, Bool.false_and]
    exact Ev.no (by omega) (Ev.now _)
end Go.Proofs.Yticfgecicmgpeaa.Pure
