/- The plain law of BulletinBounds. -/
import Derived.Test.YtibmbffhlicpaaaAx6
import Derived.Test.YtibmbffhlicpaaaAx7
import Derived.Test.YtibmbffhlicpaaaAx21
import Derived.Test.YtibmbffhlicpaaaM4
namespace Go.Proofs.Ytibmbffhlicpaaa.Pure
open Go.RowKit Go.Proofs.Ytibmbffhlicpaaa.A Go.Proofs.YtibmbffhlicpaaaW.PrintWords Go.Proofs.YtibmbffhlicpaaaW.PrintLast Go.Proofs.YtibmbffhlicpaaaW.PrintMore
theorem bounds_l0 (l : List S31) (z lo hi t w0 w1 : Int) (hr : RightP l) (d : Nat) : ∀ n : Nat, 32 - n = d → n ≤ 32 →
    Ev (fun k => skiarealaw49_BulletinBounds.l0 k l (grV allB l t) (mostTo l t n) (n + 1 : Nat) z lo hi t w0 w1) true := by
  induction d with
  | zero =>
    intro n hd hn
    obtain rfl : n = 32 := by omega
    refine Ev.step (fun k => by rw [skiarealaw49_BulletinBounds.l0, if_neg (by omega)]) ?_
    have hw : grV (lvlB z (mn lo w0) (mx hi w1)) l t ≥ grV (lvlB z lo hi) l t := wide_ge (by unfold mn; split <;> omega) (by unfold mx; split <;> omega)
    have hle : grV (lvlB z lo hi) l t ≤ grV allB l t := gr_mono (fun _ _ _ => rfl)
    have hc := wor_cur (t := t) hr
    refine Ev.bind (Ev.now (grV (lvlB z lo hi) l t)) (Ev.bind (Ev.now (grV (lvlB z (mn lo w0) (mx hi w1)) l t)) ?_)
    refine Ev.yes (most_eq hr) (Ev.yes (gr_pos _ _ _) (Ev.yes (wor_le hr _) (Ev.bind (cur_ev l t (right_len hr)) (Ev.yes ?_ (Ev.yes hle (Ev.yes (gr_pos _ _ _) (Ev.yes hw ?_)))))))
    · simp only [beq_iff_eq]; exact decide_eq_decide.2 hc
    · exact Ev.bind (Ev.now (grV (lvlB 0 lo hi) l t)) (Ev.val (by rw [lvl_zero hr]; rfl))
  | succ d ih =>
    intro n hd hn
    have hw : wrap64 (((n + 1 : Nat) : Int) + 1) = ((n + 1 + 1 : Nat) : Int) := by rw [wrap_id (by omega)]; rfl
    refine Ev.step (fun k => by rw [skiarealaw49_BulletinBounds.l0, if_pos (by omega), hw]) ?_
    exact Ev.bind (Ev.now (grV (lvlB ((n + 1 : Nat) : Int) 0 6000) l t)) (ih (n + 1) (by omega) (by omega))
theorem BulletinBounds : ∀ (l0 : List S31) (a1_0 : Int) (a1_1 : Int) (a1_2 : Int) (a1_3 : Int) (a2_0 : Int) (a2_1 : Int), GoodL (fun x => good31 x) l0 → InI64 a1_0 → InI64 a1_1 → InI64 a1_2 → InI64 a1_3 → InI64 a2_0 → InI64 a2_1 → ∃ k, skiarealaw49_BulletinBounds.f k l0 a1_0 a1_1 a1_2 a1_3 a2_0 a2_1 = some true := by
  intro l z lo hi t w0 w1 _ _ _ _ _ _ _
  obtain ⟨b, hb, hb2⟩ := rightL_ev l
  refine Ev.rounds (Ev.bind alive_ev (Ev.yes rfl (Ev.bind hb ?_)))
  cases b with
  | false => exact Ev.no (by decide) (Ev.now _)
  | true => exact Ev.yes rfl (Ev.bind (Ev.now (grV allB l t)) (bounds_l0 l z lo hi t w0 w1 (hb2.1 rfl) 32 0 (by omega) (by omega)))
end Go.Proofs.Ytibmbffhlicpaaa.Pure
