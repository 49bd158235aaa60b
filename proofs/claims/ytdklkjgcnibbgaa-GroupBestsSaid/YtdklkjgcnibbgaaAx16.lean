-- PRINTED by print.py (a twelfth state) out of the translation. Not trusted: Lean checks it.
import Derived.Test.YtdklkjgcnibbgaaAx0
import Derived.Test.YtdklkjgcnibbgaaAx4
import Derived.Test.YtdklkjgcnibbgaaAx10
import Derived.Test.YtdklkjgcnibbgaaAx13
import Derived.Test.YtdklkjgcnibbgaaAx14
import Derived.Test.YtdklkjgcnibbgaaAx15
namespace Go.Proofs.Ytdklkjgcnibbgaa.A
open Go.RowKit Go.Proofs.YtdklkjgcnibbgaaW.PrintWords Go.Proofs.YtdklkjgcnibbgaaW.PrintLast Go.Proofs.YtdklkjgcnibbgaaW.PrintMore
attribute [local go_sem] max2_int min2_int max_two min_two max_three min_three max_four min_four   -- for this text's walks alone
set_option linter.unusedVariables false
set_option linter.unusedSimpArgs false

/-! ### skiarealaw24_alive: function 10 -/
def skiarealaw24_alive.j0 : Nat → List (S43) → List (S43) → Bool → List Int → List Int → List (S45) → Option (Bool)
 | 0, _, _, _, _, _, _ => none
 | k + 1, x2, x7, x95, x155000, x155001, x155002 => if x95 = true then (some false) else (if (x2.length : Int) = 1 then (if 0 < (x2.length : Int) then (if ((rd_T43 x2 0).f0) = 1 then (if (((rd_T43 x2 0).f1).length : Int) = 4 then (if (x7.length : Int) = 2 then ((group_Right.f k x155000 x155001 x155002).bind fun t200 => (if t200 = 0 then ((group_Right.f k x155000 ([] : List Int) ([] : List (S45))).bind fun t201 => (some (t201 == 3))) else (some false))) else (some false)) else (some false)) else (some false)) else (none)) else (some false))
def skiarealaw24_alive.f (k : Nat)  : Option (Bool) := (skiarealaw24_sample.f).bind fun bt145 => ((skiarealaw24_best.f k bt145.1 bt145.2.1 bt145.2.2).bind fun bt155 => ((group_Saving.f k bt145.1 bt145.2.1 bt145.2.2).bind fun bt160 => (if 1 ≤ (bt145.2.2.length : Int) then ((some (bt145.2.2.drop (1 : Int).toNat : List (S45))).bind fun y162 => ((skiarealaw24_best.f k bt145.1 bt145.2.1 y162).bind fun bt165 => ((skiarealaw24_cost.f k bt145.1 bt145.2.1 y162 (([(⟨2, (([0, 2, 3] : List Int))⟩ : S43), (⟨0, (([1] : List Int))⟩ : S43)] : List (S43)))).bind fun bt179 => ((skiarealaw24_sample.f).bind fun bt181 => ((skiarealaw24_cost.f k bt181.1 bt181.2.1 bt181.2.2 (([(⟨1, (([0, 1, 2] : List Int))⟩ : S43)] : List (S43)))).bind fun bt196 => (if bt155.2.2 = 0 then (if bt160.2 = 0 then (if bt165.2.2 = 0 then (if bt155.2.1 = 11000 then (if bt160.1 = 4000 then (if bt165.2.1 = 13000 then (if bt179.1 = 13000 then (if bt179.2 = true then (if bt196.1 = 0 then (skiarealaw24_alive.j0 k bt155.1 bt165.1 bt196.2 bt145.1 bt145.2.1 y162) else (skiarealaw24_alive.j0 k bt155.1 bt165.1 true bt145.1 bt145.2.1 y162)) else (skiarealaw24_alive.j0 k bt155.1 bt165.1 true bt145.1 bt145.2.1 y162)) else (skiarealaw24_alive.j0 k bt155.1 bt165.1 true bt145.1 bt145.2.1 y162)) else (skiarealaw24_alive.j0 k bt155.1 bt165.1 true bt145.1 bt145.2.1 y162)) else (skiarealaw24_alive.j0 k bt155.1 bt165.1 true bt145.1 bt145.2.1 y162)) else (skiarealaw24_alive.j0 k bt155.1 bt165.1 true bt145.1 bt145.2.1 y162)) else (skiarealaw24_alive.j0 k bt155.1 bt165.1 true bt145.1 bt145.2.1 y162)) else (skiarealaw24_alive.j0 k bt155.1 bt165.1 true bt145.1 bt145.2.1 y162)) else (skiarealaw24_alive.j0 k bt155.1 bt165.1 true bt145.1 bt145.2.1 y162))))))) else (none))))
theorem skiarealaw24_alive.mono_l : ∀ k, (∀ y0 y1 y2 y3 y4 y5, LeO (skiarealaw24_alive.j0 k y0 y1 y2 y3 y4 y5) (skiarealaw24_alive.j0 (k + 1) y0 y1 y2 y3 y4 y5))
 | 0 => fun _ _ _ _ _ _ r h => by simp [skiarealaw24_alive.j0] at h
 | k + 1 => by
  have ih0 := skiarealaw24_alive.mono_l k
  ·intro y0 y1 y2 y3 y4 y5
   unfold skiarealaw24_alive.j0
   repeat' first
   | (with_reducible exact ih0 _ _ _ _ _ _)
   | (with_reducible exact group_Right.mono _ _ _ _)
   | (with_reducible exact group_Saving.mono _ _ _ _)
   | (with_reducible exact skiarealaw24_best.mono _ _ _ _)
   | (with_reducible exact skiarealaw24_cost.mono _ _ _ _ _)
   | (with_reducible exact LeO.refl _)
   | (with_reducible exact LeO.none _)
   | (with_reducible refine LeO.ite ?_ ?_)
   | (with_reducible refine LeO.bind ?_ (fun _ => ?_))
   | exact ih0 _ _ _ _ _ _
   | exact group_Right.mono _ _ _ _
   | exact group_Saving.mono _ _ _ _
   | exact skiarealaw24_best.mono _ _ _ _
   | exact skiarealaw24_cost.mono _ _ _ _ _
   | exact LeO.none _
   | refine LeO.ite ?_ ?_
   | refine LeO.bind ?_ (fun _ => ?_)
theorem skiarealaw24_alive.mono : ∀ k, LeO (skiarealaw24_alive.f k ) (skiarealaw24_alive.f (k + 1) ) := by
 intro  k
 have ih0 := skiarealaw24_alive.mono_l k
 unfold skiarealaw24_alive.f
 repeat' first
   | (with_reducible exact ih0 _ _ _ _ _ _)
   | (with_reducible exact group_Right.mono _ _ _ _)
   | (with_reducible exact group_Saving.mono _ _ _ _)
   | (with_reducible exact skiarealaw24_best.mono _ _ _ _)
   | (with_reducible exact skiarealaw24_cost.mono _ _ _ _ _)
   | (with_reducible exact LeO.refl _)
   | (with_reducible exact LeO.none _)
   | (with_reducible refine LeO.ite ?_ ?_)
   | (with_reducible refine LeO.bind ?_ (fun _ => ?_))
   | exact ih0 _ _ _ _ _ _
   | exact group_Right.mono _ _ _ _
   | exact group_Saving.mono _ _ _ _
   | exact skiarealaw24_best.mono _ _ _ _
   | exact skiarealaw24_cost.mono _ _ _ _ _
   | exact LeO.none _
   | refine LeO.ite ?_ ?_
   | refine LeO.bind ?_ (fun _ => ?_)
set_option maxHeartbeats 8000000 in
set_option maxRecDepth 100000 in
theorem skiarealaw24_alive.calls (k : Nat)  (r : Bool) (w : World) (h : skiarealaw24_alive.f k  = some r) :
  Calls Try.prog 10 #[] w fun e w' => e = .returned (.bool r) ∧ Below w.heap.size w w' := by
 have hu25 := Try.underlying25
 have hu43 := Try.underlying43
 have HB := Aside0.mk (Below.refl w.heap.size w)
 have H : ((skiarealaw24_sample.f).bind fun bt145 => ((skiarealaw24_best.f k bt145.1 bt145.2.1 bt145.2.2).bind fun bt155 => ((group_Saving.f k bt145.1 bt145.2.1 bt145.2.2).bind fun bt160 => (if 1 ≤ (bt145.2.2.length : Int) then ((some (bt145.2.2.drop (1 : Int).toNat : List (S45))).bind fun y162 => ((skiarealaw24_best.f k bt145.1 bt145.2.1 y162).bind fun bt165 => ((skiarealaw24_cost.f k bt145.1 bt145.2.1 y162 (([(⟨2, (([0, 2, 3] : List Int))⟩ : S43), (⟨0, (([1] : List Int))⟩ : S43)] : List (S43)))).bind fun bt179 => ((skiarealaw24_sample.f).bind fun bt181 => ((skiarealaw24_cost.f k bt181.1 bt181.2.1 bt181.2.2 (([(⟨1, (([0, 1, 2] : List Int))⟩ : S43)] : List (S43)))).bind fun bt196 => (if bt155.2.2 = 0 then (if bt160.2 = 0 then (if bt165.2.2 = 0 then (if bt155.2.1 = 11000 then (if bt160.1 = 4000 then (if bt165.2.1 = 13000 then (if bt179.1 = 13000 then (if bt179.2 = true then (if bt196.1 = 0 then (skiarealaw24_alive.j0 k bt155.1 bt165.1 bt196.2 bt145.1 bt145.2.1 y162) else (skiarealaw24_alive.j0 k bt155.1 bt165.1 true bt145.1 bt145.2.1 y162)) else (skiarealaw24_alive.j0 k bt155.1 bt165.1 true bt145.1 bt145.2.1 y162)) else (skiarealaw24_alive.j0 k bt155.1 bt165.1 true bt145.1 bt145.2.1 y162)) else (skiarealaw24_alive.j0 k bt155.1 bt165.1 true bt145.1 bt145.2.1 y162)) else (skiarealaw24_alive.j0 k bt155.1 bt165.1 true bt145.1 bt145.2.1 y162)) else (skiarealaw24_alive.j0 k bt155.1 bt165.1 true bt145.1 bt145.2.1 y162)) else (skiarealaw24_alive.j0 k bt155.1 bt165.1 true bt145.1 bt145.2.1 y162)) else (skiarealaw24_alive.j0 k bt155.1 bt165.1 true bt145.1 bt145.2.1 y162)) else (skiarealaw24_alive.j0 k bt155.1 bt165.1 true bt145.1 bt145.2.1 y162))))))) else (none))))) = some r := h
 clear h
 replace H := Option.bind_eq_some_iff.mp H
 obtain ⟨⟨t145, t148, t151⟩, A10, H⟩ := H
 replace H : ((skiarealaw24_best.f k t145 t148 t151).bind fun bt155 => ((group_Saving.f k t145 t148 t151).bind fun bt160 => (if 1 ≤ (t151.length : Int) then ((some (t151.drop (1 : Int).toNat : List (S45))).bind fun y162 => ((skiarealaw24_best.f k t145 t148 y162).bind fun bt165 => ((skiarealaw24_cost.f k t145 t148 y162 (([(⟨2, (([0, 2, 3] : List Int))⟩ : S43), (⟨0, (([1] : List Int))⟩ : S43)] : List (S43)))).bind fun bt179 => ((skiarealaw24_sample.f).bind fun bt181 => ((skiarealaw24_cost.f k bt181.1 bt181.2.1 bt181.2.2 (([(⟨1, (([0, 1, 2] : List Int))⟩ : S43)] : List (S43)))).bind fun bt196 => (if bt155.2.2 = 0 then (if bt160.2 = 0 then (if bt165.2.2 = 0 then (if bt155.2.1 = 11000 then (if bt160.1 = 4000 then (if bt165.2.1 = 13000 then (if bt179.1 = 13000 then (if bt179.2 = true then (if bt196.1 = 0 then (skiarealaw24_alive.j0 k bt155.1 bt165.1 bt196.2 t145 t148 y162) else (skiarealaw24_alive.j0 k bt155.1 bt165.1 true t145 t148 y162)) else (skiarealaw24_alive.j0 k bt155.1 bt165.1 true t145 t148 y162)) else (skiarealaw24_alive.j0 k bt155.1 bt165.1 true t145 t148 y162)) else (skiarealaw24_alive.j0 k bt155.1 bt165.1 true t145 t148 y162)) else (skiarealaw24_alive.j0 k bt155.1 bt165.1 true t145 t148 y162)) else (skiarealaw24_alive.j0 k bt155.1 bt165.1 true t145 t148 y162)) else (skiarealaw24_alive.j0 k bt155.1 bt165.1 true t145 t148 y162)) else (skiarealaw24_alive.j0 k bt155.1 bt165.1 true t145 t148 y162)) else (skiarealaw24_alive.j0 k bt155.1 bt165.1 true t145 t148 y162))))))) else (none)))) = some r := H
 have A1 := Aside0.mk A10
 clear A10
 replace H := Option.bind_eq_some_iff.mp H
 obtain ⟨⟨t155, t158, t159⟩, A20, H⟩ := H
 replace H : ((group_Saving.f k t145 t148 t151).bind fun bt160 => (if 1 ≤ (t151.length : Int) then ((some (t151.drop (1 : Int).toNat : List (S45))).bind fun y162 => ((skiarealaw24_best.f k t145 t148 y162).bind fun bt165 => ((skiarealaw24_cost.f k t145 t148 y162 (([(⟨2, (([0, 2, 3] : List Int))⟩ : S43), (⟨0, (([1] : List Int))⟩ : S43)] : List (S43)))).bind fun bt179 => ((skiarealaw24_sample.f).bind fun bt181 => ((skiarealaw24_cost.f k bt181.1 bt181.2.1 bt181.2.2 (([(⟨1, (([0, 1, 2] : List Int))⟩ : S43)] : List (S43)))).bind fun bt196 => (if t159 = 0 then (if bt160.2 = 0 then (if bt165.2.2 = 0 then (if t158 = 11000 then (if bt160.1 = 4000 then (if bt165.2.1 = 13000 then (if bt179.1 = 13000 then (if bt179.2 = true then (if bt196.1 = 0 then (skiarealaw24_alive.j0 k t155 bt165.1 bt196.2 t145 t148 y162) else (skiarealaw24_alive.j0 k t155 bt165.1 true t145 t148 y162)) else (skiarealaw24_alive.j0 k t155 bt165.1 true t145 t148 y162)) else (skiarealaw24_alive.j0 k t155 bt165.1 true t145 t148 y162)) else (skiarealaw24_alive.j0 k t155 bt165.1 true t145 t148 y162)) else (skiarealaw24_alive.j0 k t155 bt165.1 true t145 t148 y162)) else (skiarealaw24_alive.j0 k t155 bt165.1 true t145 t148 y162)) else (skiarealaw24_alive.j0 k t155 bt165.1 true t145 t148 y162)) else (skiarealaw24_alive.j0 k t155 bt165.1 true t145 t148 y162)) else (skiarealaw24_alive.j0 k t155 bt165.1 true t145 t148 y162))))))) else (none))) = some r := H
 have A2 := Aside0.mk A20
 clear A20
 replace H := Option.bind_eq_some_iff.mp H
 obtain ⟨⟨t160, t161⟩, A30, H⟩ := H
 replace H : (if 1 ≤ (t151.length : Int) then ((some (t151.drop (1 : Int).toNat : List (S45))).bind fun y162 => ((skiarealaw24_best.f k t145 t148 y162).bind fun bt165 => ((skiarealaw24_cost.f k t145 t148 y162 (([(⟨2, (([0, 2, 3] : List Int))⟩ : S43), (⟨0, (([1] : List Int))⟩ : S43)] : List (S43)))).bind fun bt179 => ((skiarealaw24_sample.f).bind fun bt181 => ((skiarealaw24_cost.f k bt181.1 bt181.2.1 bt181.2.2 (([(⟨1, (([0, 1, 2] : List Int))⟩ : S43)] : List (S43)))).bind fun bt196 => (if t159 = 0 then (if t161 = 0 then (if bt165.2.2 = 0 then (if t158 = 11000 then (if t160 = 4000 then (if bt165.2.1 = 13000 then (if bt179.1 = 13000 then (if bt179.2 = true then (if bt196.1 = 0 then (skiarealaw24_alive.j0 k t155 bt165.1 bt196.2 t145 t148 y162) else (skiarealaw24_alive.j0 k t155 bt165.1 true t145 t148 y162)) else (skiarealaw24_alive.j0 k t155 bt165.1 true t145 t148 y162)) else (skiarealaw24_alive.j0 k t155 bt165.1 true t145 t148 y162)) else (skiarealaw24_alive.j0 k t155 bt165.1 true t145 t148 y162)) else (skiarealaw24_alive.j0 k t155 bt165.1 true t145 t148 y162)) else (skiarealaw24_alive.j0 k t155 bt165.1 true t145 t148 y162)) else (skiarealaw24_alive.j0 k t155 bt165.1 true t145 t148 y162)) else (skiarealaw24_alive.j0 k t155 bt165.1 true t145 t148 y162)) else (skiarealaw24_alive.j0 k t155 bt165.1 true t145 t148 y162))))))) else (none)) = some r := H
 have A3 := Aside0.mk A30
 clear A30
 by_cases c4 : 1 ≤ (t151.length : Int)
 ·rw [if_pos c4] at H
  have c4b0 := eq_true c4
  have c4b1 : decide (1 ≤ (t151.length : Int)) = true := decide_eq_true c4
  clear c4
  obtain ⟨y162, hy162⟩ : ∃ y_ : List (S45), y_ = (t151.drop (1 : Int).toNat) := ⟨_, rfl⟩
  replace H : ((skiarealaw24_best.f k t145 t148 y162).bind fun bt165 => ((skiarealaw24_cost.f k t145 t148 y162 (([(⟨2, (([0, 2, 3] : List Int))⟩ : S43), (⟨0, (([1] : List Int))⟩ : S43)] : List (S43)))).bind fun bt179 => ((skiarealaw24_sample.f).bind fun bt181 => ((skiarealaw24_cost.f k bt181.1 bt181.2.1 bt181.2.2 (([(⟨1, (([0, 1, 2] : List Int))⟩ : S43)] : List (S43)))).bind fun bt196 => (if t159 = 0 then (if t161 = 0 then (if bt165.2.2 = 0 then (if t158 = 11000 then (if t160 = 4000 then (if bt165.2.1 = 13000 then (if bt179.1 = 13000 then (if bt179.2 = true then (if bt196.1 = 0 then (skiarealaw24_alive.j0 k t155 bt165.1 bt196.2 t145 t148 y162) else (skiarealaw24_alive.j0 k t155 bt165.1 true t145 t148 y162)) else (skiarealaw24_alive.j0 k t155 bt165.1 true t145 t148 y162)) else (skiarealaw24_alive.j0 k t155 bt165.1 true t145 t148 y162)) else (skiarealaw24_alive.j0 k t155 bt165.1 true t145 t148 y162)) else (skiarealaw24_alive.j0 k t155 bt165.1 true t145 t148 y162)) else (skiarealaw24_alive.j0 k t155 bt165.1 true t145 t148 y162)) else (skiarealaw24_alive.j0 k t155 bt165.1 true t145 t148 y162)) else (skiarealaw24_alive.j0 k t155 bt165.1 true t145 t148 y162)) else (skiarealaw24_alive.j0 k t155 bt165.1 true t145 t148 y162)))))) = some r := by first | (rw [hy162]; with_reducible exact H) | (have H2_ := (Option.bind_some _ _).symm.trans H; rw [hy162]; with_reducible exact H2_) | (have H2_ := (Option.bind_some _ _).symm.trans H; with_reducible exact H2_) | with_reducible exact H | (rw [hy162]; exact H) | exact H
  have Ny162 := Aside0.mk hy162
  clear hy162
  replace H := Option.bind_eq_some_iff.mp H
  obtain ⟨⟨t165, t168, t169⟩, A50, H⟩ := H
  replace H : ((skiarealaw24_cost.f k t145 t148 y162 (([(⟨2, (([0, 2, 3] : List Int))⟩ : S43), (⟨0, (([1] : List Int))⟩ : S43)] : List (S43)))).bind fun bt179 => ((skiarealaw24_sample.f).bind fun bt181 => ((skiarealaw24_cost.f k bt181.1 bt181.2.1 bt181.2.2 (([(⟨1, (([0, 1, 2] : List Int))⟩ : S43)] : List (S43)))).bind fun bt196 => (if t159 = 0 then (if t161 = 0 then (if t169 = 0 then (if t158 = 11000 then (if t160 = 4000 then (if t168 = 13000 then (if bt179.1 = 13000 then (if bt179.2 = true then (if bt196.1 = 0 then (skiarealaw24_alive.j0 k t155 t165 bt196.2 t145 t148 y162) else (skiarealaw24_alive.j0 k t155 t165 true t145 t148 y162)) else (skiarealaw24_alive.j0 k t155 t165 true t145 t148 y162)) else (skiarealaw24_alive.j0 k t155 t165 true t145 t148 y162)) else (skiarealaw24_alive.j0 k t155 t165 true t145 t148 y162)) else (skiarealaw24_alive.j0 k t155 t165 true t145 t148 y162)) else (skiarealaw24_alive.j0 k t155 t165 true t145 t148 y162)) else (skiarealaw24_alive.j0 k t155 t165 true t145 t148 y162)) else (skiarealaw24_alive.j0 k t155 t165 true t145 t148 y162)) else (skiarealaw24_alive.j0 k t155 t165 true t145 t148 y162))))) = some r := H
  have A5 := Aside0.mk A50
  clear A50
  obtain ⟨y170, hy170⟩ : ∃ y_ : List Int, y_ = (([0, 2, 3] : List Int)) := ⟨_, rfl⟩
  replace H : ((skiarealaw24_cost.f k t145 t148 y162 (([(⟨2, y170⟩ : S43), (⟨0, (([1] : List Int))⟩ : S43)] : List (S43)))).bind fun bt179 => ((skiarealaw24_sample.f).bind fun bt181 => ((skiarealaw24_cost.f k bt181.1 bt181.2.1 bt181.2.2 (([(⟨1, (([0, 1, 2] : List Int))⟩ : S43)] : List (S43)))).bind fun bt196 => (if t159 = 0 then (if t161 = 0 then (if t169 = 0 then (if t158 = 11000 then (if t160 = 4000 then (if t168 = 13000 then (if bt179.1 = 13000 then (if bt179.2 = true then (if bt196.1 = 0 then (skiarealaw24_alive.j0 k t155 t165 bt196.2 t145 t148 y162) else (skiarealaw24_alive.j0 k t155 t165 true t145 t148 y162)) else (skiarealaw24_alive.j0 k t155 t165 true t145 t148 y162)) else (skiarealaw24_alive.j0 k t155 t165 true t145 t148 y162)) else (skiarealaw24_alive.j0 k t155 t165 true t145 t148 y162)) else (skiarealaw24_alive.j0 k t155 t165 true t145 t148 y162)) else (skiarealaw24_alive.j0 k t155 t165 true t145 t148 y162)) else (skiarealaw24_alive.j0 k t155 t165 true t145 t148 y162)) else (skiarealaw24_alive.j0 k t155 t165 true t145 t148 y162)) else (skiarealaw24_alive.j0 k t155 t165 true t145 t148 y162))))) = some r := by first | (rw [hy170]; with_reducible exact H) | (have H2_ := (Option.bind_some _ _).symm.trans H; rw [hy170]; with_reducible exact H2_) | (have H2_ := (Option.bind_some _ _).symm.trans H; with_reducible exact H2_) | with_reducible exact H | (rw [hy170]; exact H) | exact H
  have Ny170 := Aside0.mk hy170
  clear hy170
  obtain ⟨y173, hy173⟩ : ∃ y_ : List Int, y_ = (([1] : List Int)) := ⟨_, rfl⟩
  replace H : ((skiarealaw24_cost.f k t145 t148 y162 (([(⟨2, y170⟩ : S43), (⟨0, y173⟩ : S43)] : List (S43)))).bind fun bt179 => ((skiarealaw24_sample.f).bind fun bt181 => ((skiarealaw24_cost.f k bt181.1 bt181.2.1 bt181.2.2 (([(⟨1, (([0, 1, 2] : List Int))⟩ : S43)] : List (S43)))).bind fun bt196 => (if t159 = 0 then (if t161 = 0 then (if t169 = 0 then (if t158 = 11000 then (if t160 = 4000 then (if t168 = 13000 then (if bt179.1 = 13000 then (if bt179.2 = true then (if bt196.1 = 0 then (skiarealaw24_alive.j0 k t155 t165 bt196.2 t145 t148 y162) else (skiarealaw24_alive.j0 k t155 t165 true t145 t148 y162)) else (skiarealaw24_alive.j0 k t155 t165 true t145 t148 y162)) else (skiarealaw24_alive.j0 k t155 t165 true t145 t148 y162)) else (skiarealaw24_alive.j0 k t155 t165 true t145 t148 y162)) else (skiarealaw24_alive.j0 k t155 t165 true t145 t148 y162)) else (skiarealaw24_alive.j0 k t155 t165 true t145 t148 y162)) else (skiarealaw24_alive.j0 k t155 t165 true t145 t148 y162)) else (skiarealaw24_alive.j0 k t155 t165 true t145 t148 y162)) else (skiarealaw24_alive.j0 k t155 t165 true t145 t148 y162))))) = some r := by first | (rw [hy173]; with_reducible exact H) | (have H2_ := (Option.bind_some _ _).symm.trans H; rw [hy173]; with_reducible exact H2_) | (have H2_ := (Option.bind_some _ _).symm.trans H; with_reducible exact H2_) | with_reducible exact H | (rw [hy173]; exact H) | exact H
  have Ny173 := Aside0.mk hy173
  clear hy173
  obtain ⟨y176, hy176⟩ : ∃ y_ : List (S43), y_ = (([(⟨2, y170⟩ : S43), (⟨0, y173⟩ : S43)] : List (S43))) := ⟨_, rfl⟩
  replace H : ((skiarealaw24_cost.f k t145 t148 y162 y176).bind fun bt179 => ((skiarealaw24_sample.f).bind fun bt181 => ((skiarealaw24_cost.f k bt181.1 bt181.2.1 bt181.2.2 (([(⟨1, (([0, 1, 2] : List Int))⟩ : S43)] : List (S43)))).bind fun bt196 => (if t159 = 0 then (if t161 = 0 then (if t169 = 0 then (if t158 = 11000 then (if t160 = 4000 then (if t168 = 13000 then (if bt179.1 = 13000 then (if bt179.2 = true then (if bt196.1 = 0 then (skiarealaw24_alive.j0 k t155 t165 bt196.2 t145 t148 y162) else (skiarealaw24_alive.j0 k t155 t165 true t145 t148 y162)) else (skiarealaw24_alive.j0 k t155 t165 true t145 t148 y162)) else (skiarealaw24_alive.j0 k t155 t165 true t145 t148 y162)) else (skiarealaw24_alive.j0 k t155 t165 true t145 t148 y162)) else (skiarealaw24_alive.j0 k t155 t165 true t145 t148 y162)) else (skiarealaw24_alive.j0 k t155 t165 true t145 t148 y162)) else (skiarealaw24_alive.j0 k t155 t165 true t145 t148 y162)) else (skiarealaw24_alive.j0 k t155 t165 true t145 t148 y162)) else (skiarealaw24_alive.j0 k t155 t165 true t145 t148 y162))))) = some r := by first | (rw [hy176]; with_reducible exact H) | (have H2_ := (Option.bind_some _ _).symm.trans H; rw [hy176]; with_reducible exact H2_) | (have H2_ := (Option.bind_some _ _).symm.trans H; with_reducible exact H2_) | with_reducible exact H | (rw [hy176]; exact H) | exact H
  have Ny176 := Aside0.mk hy176
  clear hy176
  replace H := Option.bind_eq_some_iff.mp H
  obtain ⟨⟨t179, t180⟩, A60, H⟩ := H
  replace H : ((skiarealaw24_sample.f).bind fun bt181 => ((skiarealaw24_cost.f k bt181.1 bt181.2.1 bt181.2.2 (([(⟨1, (([0, 1, 2] : List Int))⟩ : S43)] : List (S43)))).bind fun bt196 => (if t159 = 0 then (if t161 = 0 then (if t169 = 0 then (if t158 = 11000 then (if t160 = 4000 then (if t168 = 13000 then (if t179 = 13000 then (if t180 = true then (if bt196.1 = 0 then (skiarealaw24_alive.j0 k t155 t165 bt196.2 t145 t148 y162) else (skiarealaw24_alive.j0 k t155 t165 true t145 t148 y162)) else (skiarealaw24_alive.j0 k t155 t165 true t145 t148 y162)) else (skiarealaw24_alive.j0 k t155 t165 true t145 t148 y162)) else (skiarealaw24_alive.j0 k t155 t165 true t145 t148 y162)) else (skiarealaw24_alive.j0 k t155 t165 true t145 t148 y162)) else (skiarealaw24_alive.j0 k t155 t165 true t145 t148 y162)) else (skiarealaw24_alive.j0 k t155 t165 true t145 t148 y162)) else (skiarealaw24_alive.j0 k t155 t165 true t145 t148 y162)) else (skiarealaw24_alive.j0 k t155 t165 true t145 t148 y162)))) = some r := H
  have A6 := Aside0.mk A60
  clear A60
  replace H := Option.bind_eq_some_iff.mp H
  obtain ⟨⟨t181, t184, t187⟩, A70, H⟩ := H
  replace H : ((skiarealaw24_cost.f k t181 t184 t187 (([(⟨1, (([0, 1, 2] : List Int))⟩ : S43)] : List (S43)))).bind fun bt196 => (if t159 = 0 then (if t161 = 0 then (if t169 = 0 then (if t158 = 11000 then (if t160 = 4000 then (if t168 = 13000 then (if t179 = 13000 then (if t180 = true then (if bt196.1 = 0 then (skiarealaw24_alive.j0 k t155 t165 bt196.2 t145 t148 y162) else (skiarealaw24_alive.j0 k t155 t165 true t145 t148 y162)) else (skiarealaw24_alive.j0 k t155 t165 true t145 t148 y162)) else (skiarealaw24_alive.j0 k t155 t165 true t145 t148 y162)) else (skiarealaw24_alive.j0 k t155 t165 true t145 t148 y162)) else (skiarealaw24_alive.j0 k t155 t165 true t145 t148 y162)) else (skiarealaw24_alive.j0 k t155 t165 true t145 t148 y162)) else (skiarealaw24_alive.j0 k t155 t165 true t145 t148 y162)) else (skiarealaw24_alive.j0 k t155 t165 true t145 t148 y162)) else (skiarealaw24_alive.j0 k t155 t165 true t145 t148 y162))) = some r := H
  have A7 := Aside0.mk A70
  clear A70
  obtain ⟨y190, hy190⟩ : ∃ y_ : List Int, y_ = (([0, 1, 2] : List Int)) := ⟨_, rfl⟩
  replace H : ((skiarealaw24_cost.f k t181 t184 t187 (([(⟨1, y190⟩ : S43)] : List (S43)))).bind fun bt196 => (if t159 = 0 then (if t161 = 0 then (if t169 = 0 then (if t158 = 11000 then (if t160 = 4000 then (if t168 = 13000 then (if t179 = 13000 then (if t180 = true then (if bt196.1 = 0 then (skiarealaw24_alive.j0 k t155 t165 bt196.2 t145 t148 y162) else (skiarealaw24_alive.j0 k t155 t165 true t145 t148 y162)) else (skiarealaw24_alive.j0 k t155 t165 true t145 t148 y162)) else (skiarealaw24_alive.j0 k t155 t165 true t145 t148 y162)) else (skiarealaw24_alive.j0 k t155 t165 true t145 t148 y162)) else (skiarealaw24_alive.j0 k t155 t165 true t145 t148 y162)) else (skiarealaw24_alive.j0 k t155 t165 true t145 t148 y162)) else (skiarealaw24_alive.j0 k t155 t165 true t145 t148 y162)) else (skiarealaw24_alive.j0 k t155 t165 true t145 t148 y162)) else (skiarealaw24_alive.j0 k t155 t165 true t145 t148 y162))) = some r := by first | (rw [hy190]; with_reducible exact H) | (have H2_ := (Option.bind_some _ _).symm.trans H; rw [hy190]; with_reducible exact H2_) | (have H2_ := (Option.bind_some _ _).symm.trans H; with_reducible exact H2_) | with_reducible exact H | (rw [hy190]; exact H) | exact H
  have Ny190 := Aside0.mk hy190
  clear hy190
  obtain ⟨y193, hy193⟩ : ∃ y_ : List (S43), y_ = (([(⟨1, y190⟩ : S43)] : List (S43))) := ⟨_, rfl⟩
  replace H : ((skiarealaw24_cost.f k t181 t184 t187 y193).bind fun bt196 => (if t159 = 0 then (if t161 = 0 then (if t169 = 0 then (if t158 = 11000 then (if t160 = 4000 then (if t168 = 13000 then (if t179 = 13000 then (if t180 = true then (if bt196.1 = 0 then (skiarealaw24_alive.j0 k t155 t165 bt196.2 t145 t148 y162) else (skiarealaw24_alive.j0 k t155 t165 true t145 t148 y162)) else (skiarealaw24_alive.j0 k t155 t165 true t145 t148 y162)) else (skiarealaw24_alive.j0 k t155 t165 true t145 t148 y162)) else (skiarealaw24_alive.j0 k t155 t165 true t145 t148 y162)) else (skiarealaw24_alive.j0 k t155 t165 true t145 t148 y162)) else (skiarealaw24_alive.j0 k t155 t165 true t145 t148 y162)) else (skiarealaw24_alive.j0 k t155 t165 true t145 t148 y162)) else (skiarealaw24_alive.j0 k t155 t165 true t145 t148 y162)) else (skiarealaw24_alive.j0 k t155 t165 true t145 t148 y162))) = some r := by first | (rw [hy193]; with_reducible exact H) | (have H2_ := (Option.bind_some _ _).symm.trans H; rw [hy193]; with_reducible exact H2_) | (have H2_ := (Option.bind_some _ _).symm.trans H; with_reducible exact H2_) | with_reducible exact H | (rw [hy193]; exact H) | exact H
  have Ny193 := Aside0.mk hy193
  clear hy193
  replace H := Option.bind_eq_some_iff.mp H
  obtain ⟨⟨t196, t197⟩, A80, H⟩ := H
  replace H : (if t159 = 0 then (if t161 = 0 then (if t169 = 0 then (if t158 = 11000 then (if t160 = 4000 then (if t168 = 13000 then (if t179 = 13000 then (if t180 = true then (if t196 = 0 then (skiarealaw24_alive.j0 k t155 t165 t197 t145 t148 y162) else (skiarealaw24_alive.j0 k t155 t165 true t145 t148 y162)) else (skiarealaw24_alive.j0 k t155 t165 true t145 t148 y162)) else (skiarealaw24_alive.j0 k t155 t165 true t145 t148 y162)) else (skiarealaw24_alive.j0 k t155 t165 true t145 t148 y162)) else (skiarealaw24_alive.j0 k t155 t165 true t145 t148 y162)) else (skiarealaw24_alive.j0 k t155 t165 true t145 t148 y162)) else (skiarealaw24_alive.j0 k t155 t165 true t145 t148 y162)) else (skiarealaw24_alive.j0 k t155 t165 true t145 t148 y162)) else (skiarealaw24_alive.j0 k t155 t165 true t145 t148 y162)) = some r := H
  have A8 := Aside0.mk A80
  clear A80
  have HC9 := Aside0.mk H
  clear H
  go_enter Try.func10, Try.ntmps10
  go_upto_region 8 with (first | ((with_reducible refine gate_callee (f := 23) rfl ?_); refine goesL_ (some 14) rfl rfl Try.func23 (by kernel_rfl) rfl #[] rfl (by (try simp only [List.map_toArray, List.map_cons, List.map_nil]); first | done | rfl | (simp only [List.length_drop, List.length_take]; rfl)) ?_; (with_reducible refine (skiarealaw24_sample.calls  t145 t148 t151 _ A1.out).mono ?_); rintro e w10 ⟨v146, v149, v152, rfl, ho0, ho1, ho2, hb⟩; refine ⟨_, rfl, ?_⟩; have n0_ := Aside0.mk (Kd.R_lower ho0 (below_size (by repeat (first | (with_reducible first | exact HB.out | apply below_alloc | apply pw_below_drewN | apply below_drew1) | exact HB.out)))); have n1_ := Aside0.mk (Kd.R_lower ho1 (below_size (by repeat (first | (with_reducible first | exact HB.out | apply below_alloc | apply pw_below_drewN | apply below_drew1) | exact HB.out)))); have n2_ := Aside0.mk (Kd.R_lower ho2 (below_size (by repeat (first | (with_reducible first | exact HB.out | apply below_alloc | apply pw_below_drewN | apply below_drew1) | exact HB.out)))); have n3_ := Aside0.mk (below_step (by repeat (first | (with_reducible first | exact HB.out | apply below_alloc | apply pw_below_drewN | apply below_drew1) | exact HB.out)) hb); clear HB; have HO147 := n0_; have HO150 := n1_; have HO153 := n2_; have HB := n3_; clear n0_ n1_ n2_ n3_; (try clear hb); (try clear hb2); (try clear hk); (try clear hi); (try clear ho0); (try clear ho1); (try clear ho2)) | ((with_reducible refine gate_dst (N := 1) rfl ?_); (try (refine gate_guard (by rfl) ?_; dsimp only)); refine box_event ?hg (N := 1) ?hd (cs := #[.slice none 0 0, .slice none 0 0, .slice none 0 0]) (t := 25) ?hr ?_; (case hd => rfl); (case hg => rfl); (case hr => first | (go_simp; done) | (go_simp; rfl)); intro gb154 hg w11 hbox hb; have n0_ := Aside0.mk (Kd.R_below (by (with_reducible repeat (first | apply Kd.R_alloc | apply Kd.R_drewN | apply Kd.R_drew)); exact HO147.out) hb); have n1_ := Aside0.mk (Kd.R_below (by (with_reducible repeat (first | apply Kd.R_alloc | apply Kd.R_drewN | apply Kd.R_drew)); exact HO150.out) hb); have n2_ := Aside0.mk (Kd.R_below (by (with_reducible repeat (first | apply Kd.R_alloc | apply Kd.R_drewN | apply Kd.R_drew)); exact HO153.out) hb); have n3_ := Aside0.mk (below_step (by repeat (first | (with_reducible first | exact HB.out | apply below_alloc | apply pw_below_drewN | apply below_drew1) | exact HB.out)) hb); have n4_ := Aside0.mk (hbox); have n5_ := Aside0.mk ((by rw [hg]; exact (below_size (by repeat (first | (with_reducible first | exact HB.out | apply below_alloc | apply pw_below_drewN | apply below_drew1) | exact HB.out))) : w.heap.size ≤ gb154)); have n6_ := Aside0.mk ((by rw [hg]; exact (below_size (by repeat (first | (with_reducible first | exact HB.out | apply below_alloc | apply pw_below_drewN | apply below_drew1) | exact HB.out))) : w.heap.size ≤ gb154)); clear HO147; clear HO150; clear HO153; clear HB; have HO147 := n0_; have HO150 := n1_; have HO153 := n2_; have HB := n3_; have BK154 := n4_; have GW154 := n5_; have GE154 := n6_; clear n0_ n1_ n2_ n3_ n4_ n5_ n6_; clear hb hbox hg; obtain ⟨Ao12, co12, eo12⟩ := Kd.R_slice HO147.out; subst eo12; have hcz13_0 : w11.cell? ⟨gb154, 0, none⟩ = some (.slice none 0 0) := (blk_cell BK154.out 0).trans rfl; have hcz13_1 : w11.cell? ⟨gb154, 1, none⟩ = some (.slice none 0 0) := (blk_cell BK154.out 1).trans rfl; have hcz13_2 : w11.cell? ⟨gb154, 2, none⟩ = some (.slice none 0 0) := (blk_cell BK154.out 2).trans rfl; have hfz13_0 := blk_frozen BK154.out 0; have hfz13_1 := blk_frozen BK154.out 1; have hfz13_2 := blk_frozen BK154.out 2; obtain ⟨Ao14, co14, eo14⟩ := Kd.R_slice HO150.out; subst eo14; obtain ⟨Ao15, co15, eo15⟩ := Kd.R_slice HO153.out; subst eo15) | ((with_reducible refine gate_callee (f := 18) rfl ?_); refine goesL_ (some 17) rfl rfl Try.func18 (by kernel_rfl) rfl #[.agg #[.slice Ao12 t145.length co12, .slice Ao14 t148.length co14, .slice Ao15 t151.length co15]] rfl (by (try simp only [List.map_toArray, List.map_cons, List.map_nil]); first | done | rfl | (simp only [List.length_drop, List.length_take]; rfl)) ?_; (with_reducible refine (skiarealaw24_best.calls k _ _ t145 _ _ t148 _ _ t151 t155 t158 t159 _ ?side1 ?side2 ?side3 ?side4 ?side5 ?side6 A2.out).mono ?_); (case side1 => refine (Kd.R_reads' (e := 3) (base := w.heap.size) (ok := fun k_ => some k_ ≠ (.slice Ao14 t148.length co14 : Value).ownBlock) (n := t145.length) (c := co12) ?_).2.2; exact (by (with_reducible repeat (first | apply Kd.R_alloc | apply Kd.R_drewN | apply Kd.R_drew)); exact (Kd.R_mono (Kd.R_far (p := ⟨gb154, 2, none⟩) (Kd.R_far (p := ⟨gb154, 1, none⟩) (Kd.R_far (p := ⟨gb154, 0, none⟩) (Kd.R_types HO147.out BK154.out (by decide)) (fun _ hk => hk.2) (.slice Ao12 t145.length co12)) (fun _ hk => hk.2) (.slice Ao14 t148.length co14)) (fun _ hk => hk.2) (.slice Ao15 t151.length co15)) (fun _ h_ => h_.1)))); (case side2 => exact (Kd.R_reads' HO147.out).2.1); (case side3 => refine (Kd.R_reads' (e := 3) (base := w.heap.size) (ok := fun k_ => some k_ ≠ (.slice Ao12 t145.length co12 : Value).ownBlock) (n := t148.length) (c := co14) ?_).2.2; exact (by (with_reducible repeat (first | apply Kd.R_alloc | apply Kd.R_drewN | apply Kd.R_drew)); exact (Kd.R_mono (Kd.R_far (p := ⟨gb154, 2, none⟩) (Kd.R_far (p := ⟨gb154, 1, none⟩) (Kd.R_far (p := ⟨gb154, 0, none⟩) (Kd.R_types HO150.out BK154.out (by decide)) (fun _ hk => hk.2) (.slice Ao12 t145.length co12)) (fun _ hk => hk.2) (.slice Ao14 t148.length co14)) (fun _ hk => hk.2) (.slice Ao15 t151.length co15)) (fun _ h_ => h_.1)))); (case side4 => exact (Kd.R_reads' HO150.out).2.1); (case side5 => refine (Kd.R_reads' (e := 45) (base := w.heap.size) (ok := fun k_ => True) (n := t151.length) (c := co15) ?_).2.2; exact (by (with_reducible repeat (first | apply Kd.R_alloc | apply Kd.R_drewN | apply Kd.R_drew)); exact (Kd.R_mono (Kd.R_far (p := ⟨gb154, 2, none⟩) (Kd.R_far (p := ⟨gb154, 1, none⟩) (Kd.R_far (p := ⟨gb154, 0, none⟩) (Kd.R_types HO153.out BK154.out (by decide)) (fun _ hk => hk.2) (.slice Ao12 t145.length co12)) (fun _ hk => hk.2) (.slice Ao14 t148.length co14)) (fun _ hk => hk.2) (.slice Ao15 t151.length co15)) (fun _ h_ => h_.1)))); (case side6 => exact (Kd.R_reads' HO153.out).2.1); rintro e w16 ⟨v156, rfl, ho0, hb⟩; refine ⟨_, rfl, ?_⟩; have n0_ := Aside0.mk (Kd.R_below (by (with_reducible repeat (first | apply Kd.R_alloc | apply Kd.R_drewN | apply Kd.R_drew)); exact (Kd.R_mono (Kd.R_far (p := ⟨gb154, 2, none⟩) (Kd.R_far (p := ⟨gb154, 1, none⟩) (Kd.R_far (p := ⟨gb154, 0, none⟩) (Kd.R_types HO147.out BK154.out (by decide)) (fun _ hk => hk.2) (.slice Ao12 t145.length co12)) (fun _ hk => hk.2) (.slice Ao14 t148.length co14)) (fun _ hk => hk.2) (.slice Ao15 t151.length co15)) (fun _ h_ => h_.1))) hb); have n1_ := Aside0.mk (Kd.R_below (by (with_reducible repeat (first | apply Kd.R_alloc | apply Kd.R_drewN | apply Kd.R_drew)); exact (Kd.R_mono (Kd.R_far (p := ⟨gb154, 2, none⟩) (Kd.R_far (p := ⟨gb154, 1, none⟩) (Kd.R_far (p := ⟨gb154, 0, none⟩) (Kd.R_types HO150.out BK154.out (by decide)) (fun _ hk => hk.2) (.slice Ao12 t145.length co12)) (fun _ hk => hk.2) (.slice Ao14 t148.length co14)) (fun _ hk => hk.2) (.slice Ao15 t151.length co15)) (fun _ h_ => h_.1))) hb); have n2_ := Aside0.mk (Kd.R_below (by (with_reducible repeat (first | apply Kd.R_alloc | apply Kd.R_drewN | apply Kd.R_drew)); exact (Kd.R_mono (Kd.R_far (p := ⟨gb154, 2, none⟩) (Kd.R_far (p := ⟨gb154, 1, none⟩) (Kd.R_far (p := ⟨gb154, 0, none⟩) (Kd.R_types HO153.out BK154.out (by decide)) (fun _ hk => hk.2) (.slice Ao12 t145.length co12)) (fun _ hk => hk.2) (.slice Ao14 t148.length co14)) (fun _ hk => hk.2) (.slice Ao15 t151.length co15)) (fun _ h_ => h_.1))) hb); have n3_ := Aside0.mk (Kd.N_lower (Kd.N_mono (ok' := fun k_ => some k_ ≠ (.slice Ao12 t145.length co12 : Value).ownBlock ∧ some k_ ≠ (.slice Ao14 t148.length co14 : Value).ownBlock ∧ some k_ ≠ (.slice Ao15 t151.length co15 : Value).ownBlock ∧ k_ ≠ gb154) (Kd.S_N (Kd.S_bound ho0)) (fun k_ hk_ => ⟨(Kd.fresh' (Kd.R_lt (by (with_reducible repeat (first | apply Kd.R_alloc | apply Kd.R_drewN | apply Kd.R_drew)); exact (Kd.R_mono (Kd.R_far (p := ⟨gb154, 2, none⟩) (Kd.R_far (p := ⟨gb154, 1, none⟩) (Kd.R_far (p := ⟨gb154, 0, none⟩) (Kd.R_types HO147.out BK154.out (by decide)) (fun _ hk => hk.2) (.slice Ao12 t145.length co12)) (fun _ hk => hk.2) (.slice Ao14 t148.length co14)) (fun _ hk => hk.2) (.slice Ao15 t151.length co15)) (fun _ h_ => h_.1)))) k_ hk_.2.1), (Kd.fresh' (Kd.R_lt (by (with_reducible repeat (first | apply Kd.R_alloc | apply Kd.R_drewN | apply Kd.R_drew)); exact (Kd.R_mono (Kd.R_far (p := ⟨gb154, 2, none⟩) (Kd.R_far (p := ⟨gb154, 1, none⟩) (Kd.R_far (p := ⟨gb154, 0, none⟩) (Kd.R_types HO150.out BK154.out (by decide)) (fun _ hk => hk.2) (.slice Ao12 t145.length co12)) (fun _ hk => hk.2) (.slice Ao14 t148.length co14)) (fun _ hk => hk.2) (.slice Ao15 t151.length co15)) (fun _ h_ => h_.1)))) k_ hk_.2.1), (Kd.fresh' (Kd.R_lt (by (with_reducible repeat (first | apply Kd.R_alloc | apply Kd.R_drewN | apply Kd.R_drew)); exact (Kd.R_mono (Kd.R_far (p := ⟨gb154, 2, none⟩) (Kd.R_far (p := ⟨gb154, 1, none⟩) (Kd.R_far (p := ⟨gb154, 0, none⟩) (Kd.R_types HO153.out BK154.out (by decide)) (fun _ hk => hk.2) (.slice Ao12 t145.length co12)) (fun _ hk => hk.2) (.slice Ao14 t148.length co14)) (fun _ hk => hk.2) (.slice Ao15 t151.length co15)) (fun _ h_ => h_.1)))) k_ hk_.2.1), (Kd.freshB (g := gb154) (o := .cells #[.slice Ao12 t145.length co12, .slice Ao14 t148.length co14, .slice Ao15 t151.length co15] 25 (0, 0)) (by (with_reducible repeat (first | refine blk_drewN ?_ _ | refine blk_drew ?_ | refine blk_alloc ?_ _)); refine blk_put (cs := #[.slice Ao12 t145.length co12, .slice Ao14 t148.length co14, .slice none 0 0]) ?_ 2 _ rfl; (with_reducible repeat (first | refine blk_drewN ?_ _ | refine blk_drew ?_ | refine blk_alloc ?_ _)); refine blk_put (cs := #[.slice Ao12 t145.length co12, .slice none 0 0, .slice none 0 0]) ?_ 1 _ rfl; (with_reducible repeat (first | refine blk_drewN ?_ _ | refine blk_drew ?_ | refine blk_alloc ?_ _)); refine blk_put (cs := #[.slice none 0 0, .slice none 0 0, .slice none 0 0]) ?_ 0 _ rfl; (with_reducible repeat (first | refine blk_drewN ?_ _ | refine blk_drew ?_ | refine blk_alloc ?_ _)); exact BK154.out) k_ hk_.2.1)⟩)) (below_size (by repeat (first | (with_reducible first | exact HB.out | apply below_alloc | apply pw_below_drewN | apply below_drew1 | refine below_set ?_ GE154.out) | exact HB.out)))); have n4_ := Aside0.mk (blk_below (g := gb154) (o := .cells #[.slice Ao12 t145.length co12, .slice Ao14 t148.length co14, .slice Ao15 t151.length co15] 25 (0, 0)) (by (with_reducible repeat (first | refine blk_drewN ?_ _ | refine blk_drew ?_ | refine blk_alloc ?_ _)); refine blk_put (cs := #[.slice Ao12 t145.length co12, .slice Ao14 t148.length co14, .slice none 0 0]) ?_ 2 _ rfl; (with_reducible repeat (first | refine blk_drewN ?_ _ | refine blk_drew ?_ | refine blk_alloc ?_ _)); refine blk_put (cs := #[.slice Ao12 t145.length co12, .slice none 0 0, .slice none 0 0]) ?_ 1 _ rfl; (with_reducible repeat (first | refine blk_drewN ?_ _ | refine blk_drew ?_ | refine blk_alloc ?_ _)); refine blk_put (cs := #[.slice none 0 0, .slice none 0 0, .slice none 0 0]) ?_ 0 _ rfl; (with_reducible repeat (first | refine blk_drewN ?_ _ | refine blk_drew ?_ | refine blk_alloc ?_ _)); exact BK154.out) hb); have n5_ := Aside0.mk (below_step (by repeat (first | (with_reducible first | exact HB.out | apply below_alloc | apply pw_below_drewN | apply below_drew1 | refine below_set ?_ GE154.out) | exact HB.out)) hb); clear HO147; clear HO150; clear HO153; clear BK154; clear HB; have HO147 := n0_; have HO150 := n1_; have HO153 := n2_; have HO157 := n3_; have BK154 := n4_; have HB := n5_; clear n0_ n1_ n2_ n3_ n4_ n5_; (try clear hb); (try clear hb2); (try clear hk); (try clear hi); (try clear ho0); have hcz17_0 : w16.cell? ⟨gb154, 0, none⟩ = some (.slice Ao12 t145.length co12) := (blk_cell BK154.out 0).trans rfl; have hcz17_1 : w16.cell? ⟨gb154, 1, none⟩ = some (.slice Ao14 t148.length co14) := (blk_cell BK154.out 1).trans rfl; have hcz17_2 : w16.cell? ⟨gb154, 2, none⟩ = some (.slice Ao15 t151.length co15) := (blk_cell BK154.out 2).trans rfl; have hfz17_0 := blk_frozen BK154.out 0; have hfz17_1 := blk_frozen BK154.out 1; have hfz17_2 := blk_frozen BK154.out 2) | ((with_reducible refine gate_callee (f := 19) rfl ?_); refine goesL_ (some 28) rfl rfl Try.func19 (by kernel_rfl) rfl #[.slice Ao12 t145.length co12, .slice Ao14 t148.length co14, .slice Ao15 t151.length co15] rfl (by (try simp only [List.map_toArray, List.map_cons, List.map_nil]); first | done | rfl | (simp only [List.length_drop, List.length_take]; rfl)) ?_; (with_reducible refine (group_Saving.calls k _ _ t145 _ _ t148 _ _ t151 t160 t161 _ ?side1 ?side2 ?side3 ?side4 ?side5 ?side6 A3.out).mono ?_); (case side1 => repeat (first | exact (Kd.R_reads' HO147.out).2.2 | (with_reducible refine Kd.C_alloc ?_ _) | (with_reducible refine Kd.C_drewN ?_ _) | (with_reducible refine Kd.C_drew ?_))); (case side2 => exact (Kd.R_reads' HO147.out).2.1); (case side3 => repeat (first | exact (Kd.R_reads' HO150.out).2.2 | (with_reducible refine Kd.C_alloc ?_ _) | (with_reducible refine Kd.C_drewN ?_ _) | (with_reducible refine Kd.C_drew ?_))); (case side4 => exact (Kd.R_reads' HO150.out).2.1); (case side5 => repeat (first | exact (Kd.R_reads' HO153.out).2.2 | (with_reducible refine Kd.C_alloc ?_ _) | (with_reducible refine Kd.C_drewN ?_ _) | (with_reducible refine Kd.C_drew ?_))); (case side6 => exact (Kd.R_reads' HO153.out).2.1); rintro e w18 ⟨rfl, hb⟩; refine ⟨_, rfl, ?_⟩; have n0_ := Aside0.mk (Kd.R_below (by (with_reducible repeat (first | apply Kd.R_alloc | apply Kd.R_drewN | apply Kd.R_drew)); exact HO147.out) hb); have n1_ := Aside0.mk (Kd.R_below (by (with_reducible repeat (first | apply Kd.R_alloc | apply Kd.R_drewN | apply Kd.R_drew)); exact HO150.out) hb); have n2_ := Aside0.mk (Kd.R_below (by (with_reducible repeat (first | apply Kd.R_alloc | apply Kd.R_drewN | apply Kd.R_drew)); exact HO153.out) hb); have n3_ := Aside0.mk (Kd.N_below (by (with_reducible repeat (first | apply Kd.N_alloc | apply Kd.N_drewN | apply Kd.N_drew)); exact HO157.out) hb); have n4_ := Aside0.mk (blk_below (g := gb154) (o := .cells #[.slice Ao12 t145.length co12, .slice Ao14 t148.length co14, .slice Ao15 t151.length co15] 25 (0, 0)) (by (with_reducible repeat (first | refine blk_drewN ?_ _ | refine blk_drew ?_ | refine blk_alloc ?_ _)); exact BK154.out) hb); have n5_ := Aside0.mk (below_step (by repeat (first | (with_reducible first | exact HB.out | apply below_alloc | apply pw_below_drewN | apply below_drew1 | refine below_set ?_ GE154.out) | exact HB.out)) hb); clear HO147; clear HO150; clear HO153; clear HO157; clear BK154; clear HB; have HO147 := n0_; have HO150 := n1_; have HO153 := n2_; have HO157 := n3_; have BK154 := n4_; have HB := n5_; clear n0_ n1_ n2_ n3_ n4_ n5_; (try clear hb); (try clear hb2); (try clear hk); (try clear hi); have hcz19_0 : w18.cell? ⟨gb154, 0, none⟩ = some (.slice Ao12 t145.length co12) := (blk_cell BK154.out 0).trans rfl; have hcz19_1 : w18.cell? ⟨gb154, 1, none⟩ = some (.slice Ao14 t148.length co14) := (blk_cell BK154.out 1).trans rfl; have hcz19_2 : w18.cell? ⟨gb154, 2, none⟩ = some (.slice Ao15 t151.length co15) := (blk_cell BK154.out 2).trans rfl; have hfz19_0 := blk_frozen BK154.out 0; have hfz19_1 := blk_frozen BK154.out 1; have hfz19_2 := blk_frozen BK154.out 2; have q20 : (1 : Int) ≤ ((t151.length : Int) : Int) := of_decide_eq_true (by first | (with_reducible assumption) | assumption); obtain ⟨i020, hi020, _, hsz20, _⟩ := info_parts info45; have hcut20 := cut_from (P := Try.prog) 23 45 .i64 Try.underlying23 hi020 4 hsz20 Ao15 t151.length co15 1 (by omega) q20; have hr20 := Kd.Q_drop (k := (1 : Int).toNat) (Kd.Q_of_R HO153.out) (by omega); obtain ⟨A20, hA20⟩ : ∃ A1, A1 = (if co15 = (1 : Int).toNat then Ao15 else (Ao15 : Option Addr).map (·.add ((1 : Int).toNat * 4))) := ⟨_, rfl⟩; obtain ⟨c20, hc20⟩ : ∃ c1, c1 = co15 - (1 : Int).toNat := ⟨_, rfl⟩; have hy20 : y162.length = t151.length - (1 : Int).toNat := (by rw [Ny162.out, List.length_drop]); rw [← Ny162.out] at hr20; rw [← hy20, ← hA20, ← hc20] at hcut20; replace hr20 : Kd.Q k45 45 w18 w.heap.size (fun _ => True) (.slice A20 y162.length c20) y162 := (by rw [hA20, hc20, hy20]; exact hr20); have HE20 : Aside0 ((Value.slice A20 y162.length c20).ownBlock = (.slice Ao15 t151.length co15 : Value).ownBlock) := ⟨by rw [hA20]; split <;> (cases (Ao15 : Option Addr) <;> rfl)⟩; clear hy20 hi020 hsz20 HO153 hA20 hc20; have HO164 := Aside0.mk hr20; clear hr20; replace q20 := eq_true q20; have n_ := Aside0.mk (Kd.N_mono (ok' := fun k_ => (some k_ ≠ (.slice Ao12 t145.length co12 : Value).ownBlock ∧ (some k_ ≠ (.slice Ao14 t148.length co14 : Value).ownBlock ∧ (some k_ ≠ (.slice A20 y162.length c20 : Value).ownBlock ∧ k_ ≠ gb154)))) HO157.out (fun k_ hk => ⟨hk.1, ⟨hk.2.1, ⟨(by rw [HE20.out]; exact hk.2.2.1), hk.2.2.2⟩⟩⟩)); clear HO157; have HO157 := n_; clear n_) | ((with_reducible refine gate_callee (f := 18) rfl ?_); refine goesL_ (some 37) rfl rfl Try.func18 (by kernel_rfl) rfl #[.agg #[.slice Ao12 t145.length co12, .slice Ao14 t148.length co14, .slice A20 y162.length c20]] rfl (by (try simp only [List.map_toArray, List.map_cons, List.map_nil]); first | done | rfl | (simp only [List.length_drop, List.length_take]; rfl)) ?_; (with_reducible refine (skiarealaw24_best.calls k _ _ t145 _ _ t148 _ _ y162 t165 t168 t169 _ ?side1 ?side2 ?side3 ?side4 ?side5 ?side6 A5.out).mono ?_); (case side1 => refine (Kd.R_reads' (e := 3) (base := w.heap.size) (ok := fun k_ => some k_ ≠ (.slice Ao14 t148.length co14 : Value).ownBlock) (n := t145.length) (c := co12) ?_).2.2; exact (by (with_reducible repeat (first | apply Kd.R_alloc | apply Kd.R_drewN | apply Kd.R_drew)); exact (Kd.R_mono (Kd.R_far (p := ⟨gb154, 2, none⟩) (Kd.R_types HO147.out BK154.out (by decide)) (fun _ hk => hk.2) (.slice A20 y162.length c20)) (fun _ h_ => h_.1)))); (case side2 => exact (Kd.R_reads' HO147.out).2.1); (case side3 => refine (Kd.R_reads' (e := 3) (base := w.heap.size) (ok := fun k_ => some k_ ≠ (.slice Ao12 t145.length co12 : Value).ownBlock) (n := t148.length) (c := co14) ?_).2.2; exact (by (with_reducible repeat (first | apply Kd.R_alloc | apply Kd.R_drewN | apply Kd.R_drew)); exact (Kd.R_mono (Kd.R_far (p := ⟨gb154, 2, none⟩) (Kd.R_types HO150.out BK154.out (by decide)) (fun _ hk => hk.2) (.slice A20 y162.length c20)) (fun _ h_ => h_.1)))); (case side4 => exact (Kd.R_reads' HO150.out).2.1); (case side5 => refine (Kd.Q_reads' (e := 45) (base := w.heap.size) (ok := fun k_ => True) (n := y162.length) (c := c20) ?_).2.2; exact (by (with_reducible repeat (first | apply Kd.Q_alloc | apply Kd.Q_drewN | apply Kd.Q_drew)); exact (Kd.Q_mono (Kd.Q_far (p := ⟨gb154, 2, none⟩) (Kd.Q_types HO164.out BK154.out (by decide)) (fun _ hk => hk.2) (.slice A20 y162.length c20)) (fun _ h_ => h_.1)))); (case side6 => exact (Kd.Q_reads' HO164.out).2.1); rintro e w21 ⟨v166, rfl, ho0, hb⟩; refine ⟨_, rfl, ?_⟩; have n0_ := Aside0.mk (Kd.R_below (by (with_reducible repeat (first | apply Kd.R_alloc | apply Kd.R_drewN | apply Kd.R_drew)); exact (Kd.R_mono (Kd.R_far (p := ⟨gb154, 2, none⟩) (Kd.R_types HO147.out BK154.out (by decide)) (fun _ hk => hk.2) (.slice A20 y162.length c20)) (fun _ h_ => h_.1))) hb); have n1_ := Aside0.mk (Kd.R_below (by (with_reducible repeat (first | apply Kd.R_alloc | apply Kd.R_drewN | apply Kd.R_drew)); exact (Kd.R_mono (Kd.R_far (p := ⟨gb154, 2, none⟩) (Kd.R_types HO150.out BK154.out (by decide)) (fun _ hk => hk.2) (.slice A20 y162.length c20)) (fun _ h_ => h_.1))) hb); have n2_ := Aside0.mk (Kd.Q_below (by (with_reducible repeat (first | apply Kd.Q_alloc | apply Kd.Q_drewN | apply Kd.Q_drew)); exact (Kd.Q_mono (Kd.Q_far (p := ⟨gb154, 2, none⟩) (Kd.Q_types HO164.out BK154.out (by decide)) (fun _ hk => hk.2) (.slice A20 y162.length c20)) (fun _ h_ => h_.1))) hb); have n3_ := Aside0.mk (Kd.N_elder' (by (with_reducible repeat (first | apply Kd.N_alloc | apply Kd.N_drewN | apply Kd.N_drew)); exact (Kd.N_mono (Kd.N_far (p := ⟨gb154, 2, none⟩) (Kd.N_mono HO157.out (fun k_ hk => (⟨hk, hk.2.2.2⟩ : _ ∧ k_ ≠ gb154))) (fun _ hk => hk.2) (.slice A20 y162.length c20)) (fun _ h_ => h_.1))) (by first | exact Kd.N_base ho0 | exact Kd.S_base ho0) hb); have n4_ := Aside0.mk (Kd.N_lower (Kd.N_mono (ok' := fun k_ => some k_ ≠ (.slice Ao12 t145.length co12 : Value).ownBlock ∧ some k_ ≠ (.slice Ao14 t148.length co14 : Value).ownBlock ∧ some k_ ≠ (.slice A20 y162.length c20 : Value).ownBlock ∧ some k_ ≠ (v156 : Value).ownBlock ∧ k_ ≠ gb154) (Kd.S_N (Kd.S_bound ho0)) (fun k_ hk_ => ⟨(Kd.fresh' (Kd.R_lt (by (with_reducible repeat (first | apply Kd.R_alloc | apply Kd.R_drewN | apply Kd.R_drew)); exact (Kd.R_mono (Kd.R_far (p := ⟨gb154, 2, none⟩) (Kd.R_types HO147.out BK154.out (by decide)) (fun _ hk => hk.2) (.slice A20 y162.length c20)) (fun _ h_ => h_.1)))) k_ hk_.2.1), (Kd.fresh' (Kd.R_lt (by (with_reducible repeat (first | apply Kd.R_alloc | apply Kd.R_drewN | apply Kd.R_drew)); exact (Kd.R_mono (Kd.R_far (p := ⟨gb154, 2, none⟩) (Kd.R_types HO150.out BK154.out (by decide)) (fun _ hk => hk.2) (.slice A20 y162.length c20)) (fun _ h_ => h_.1)))) k_ hk_.2.1), (Kd.fresh' (Kd.Q_lt (by (with_reducible repeat (first | apply Kd.Q_alloc | apply Kd.Q_drewN | apply Kd.Q_drew)); exact (Kd.Q_mono (Kd.Q_far (p := ⟨gb154, 2, none⟩) (Kd.Q_types HO164.out BK154.out (by decide)) (fun _ hk => hk.2) (.slice A20 y162.length c20)) (fun _ h_ => h_.1)))) k_ hk_.2.1), (Kd.fresh' (Kd.N_lt (by (with_reducible repeat (first | apply Kd.N_alloc | apply Kd.N_drewN | apply Kd.N_drew)); exact (Kd.N_mono (Kd.N_far (p := ⟨gb154, 2, none⟩) (Kd.N_mono HO157.out (fun k_ hk => (⟨hk, hk.2.2.2⟩ : _ ∧ k_ ≠ gb154))) (fun _ hk => hk.2) (.slice A20 y162.length c20)) (fun _ h_ => h_.1)))) k_ hk_.2.1), (Kd.freshB (g := gb154) (o := .cells #[.slice Ao12 t145.length co12, .slice Ao14 t148.length co14, .slice A20 y162.length c20] 25 (0, 0)) (by (with_reducible repeat (first | refine blk_drewN ?_ _ | refine blk_drew ?_ | refine blk_alloc ?_ _)); refine blk_put (cs := #[.slice Ao12 t145.length co12, .slice Ao14 t148.length co14, .slice Ao15 t151.length co15]) ?_ 2 _ rfl; (with_reducible repeat (first | refine blk_drewN ?_ _ | refine blk_drew ?_ | refine blk_alloc ?_ _)); exact BK154.out) k_ hk_.2.1)⟩)) (below_size (by repeat (first | (with_reducible first | exact HB.out | apply below_alloc | apply pw_below_drewN | apply below_drew1 | refine below_set ?_ GE154.out) | exact HB.out)))); have n5_ := Aside0.mk (blk_below (g := gb154) (o := .cells #[.slice Ao12 t145.length co12, .slice Ao14 t148.length co14, .slice A20 y162.length c20] 25 (0, 0)) (by (with_reducible repeat (first | refine blk_drewN ?_ _ | refine blk_drew ?_ | refine blk_alloc ?_ _)); refine blk_put (cs := #[.slice Ao12 t145.length co12, .slice Ao14 t148.length co14, .slice Ao15 t151.length co15]) ?_ 2 _ rfl; (with_reducible repeat (first | refine blk_drewN ?_ _ | refine blk_drew ?_ | refine blk_alloc ?_ _)); exact BK154.out) hb); have n6_ := Aside0.mk (below_step (by repeat (first | (with_reducible first | exact HB.out | apply below_alloc | apply pw_below_drewN | apply below_drew1 | refine below_set ?_ GE154.out) | exact HB.out)) hb); clear HO147; clear HO150; clear HO164; clear HO157; clear BK154; clear HB; have HO147 := n0_; have HO150 := n1_; have HO164 := n2_; have HO157 := n3_; have HO167 := n4_; have BK154 := n5_; have HB := n6_; clear n0_ n1_ n2_ n3_ n4_ n5_ n6_; (try clear hb); (try clear hb2); (try clear hk); (try clear hi); (try clear ho0); have hcz22_0 : w21.cell? ⟨gb154, 0, none⟩ = some (.slice Ao12 t145.length co12) := (blk_cell BK154.out 0).trans rfl; have hcz22_1 : w21.cell? ⟨gb154, 1, none⟩ = some (.slice Ao14 t148.length co14) := (blk_cell BK154.out 1).trans rfl; have hcz22_2 : w21.cell? ⟨gb154, 2, none⟩ = some (.slice A20 y162.length c20) := (blk_cell BK154.out 2).trans rfl; have hfz22_0 := blk_frozen BK154.out 0; have hfz22_1 := blk_frozen BK154.out 1; have hfz22_2 := blk_frozen BK154.out 2) | ((with_reducible refine gate_dst (N := 43) rfl ?_); (try (refine gate_guard (by rfl) ?_; dsimp only)); refine Kd.R_lit (Kd.int .i64) _ 3 ?hg (N := 43) ?hd (xs := ([0, 2, 3] : List Int)) (inner := [.int .i64 0, .int .i64 2, .int .i64 3]) (ok := fun _ => True) (okp := fun _ => True) ?hr ?hp (fun _ hk => hk) trivial (Below.refl _ _) (Nat.le_refl _) (by simp) ?_; (case hd => rfl); (case hg => rfl); (case hr => first | (go_simp; done) | (go_simp; rfl)); (case hp => exact (Reps.one (show Kd.M (Kd.int .i64) _ _ _ 0 [.int .i64 0] from rfl) (Reps.one (show Kd.M (Kd.int .i64) _ _ _ 2 [.int .i64 2] from rfl) (Reps.one (show Kd.M (Kd.int .i64) _ _ _ 3 [.int .i64 3] from rfl) (Reps.none _ _))))); intro v171 w23 ho24 hb hg_ hnew_; clear hg_ hnew_; (first | rw [← Ny170.out] at ho24 | (simp only [Int.reduceToNat] at ho24; rw [← Ny170.out] at ho24)); have n0_ := Aside0.mk (Kd.R_elder' (by (with_reducible repeat (first | apply Kd.R_alloc | apply Kd.R_drewN | apply Kd.R_drew)); exact HO147.out) (Kd.R_base ho24) hb); have n1_ := Aside0.mk (Kd.R_elder' (by (with_reducible repeat (first | apply Kd.R_alloc | apply Kd.R_drewN | apply Kd.R_drew)); exact HO150.out) (Kd.R_base ho24) hb); have n2_ := Aside0.mk (Kd.Q_below (by (with_reducible repeat (first | apply Kd.Q_alloc | apply Kd.Q_drewN | apply Kd.Q_drew)); exact HO164.out) hb); have n3_ := Aside0.mk (Kd.N_elder' (by (with_reducible repeat (first | apply Kd.N_alloc | apply Kd.N_drewN | apply Kd.N_drew)); exact HO157.out) (Kd.R_base ho24) hb); have n4_ := Aside0.mk (Kd.N_elder' (by (with_reducible repeat (first | apply Kd.N_alloc | apply Kd.N_drewN | apply Kd.N_drew)); exact HO167.out) (Kd.R_base ho24) hb); have n5_ := Aside0.mk (Kd.R_lower (Kd.R_new' (Kd.R_new' ho24 (Kd.R_lt (by (with_reducible repeat (first | apply Kd.R_alloc | apply Kd.R_drewN | apply Kd.R_drew)); exact HO147.out))) (Kd.R_lt (by (with_reducible repeat (first | apply Kd.R_alloc | apply Kd.R_drewN | apply Kd.R_drew)); exact HO150.out))) (below_size (by repeat (first | (with_reducible first | exact HB.out | apply below_alloc | apply pw_below_drewN | apply below_drew1 | refine below_set ?_ GE154.out) | exact HB.out)))); have n6_ := Aside0.mk (blk_below (g := gb154) (o := .cells #[.slice Ao12 t145.length co12, .slice Ao14 t148.length co14, .slice A20 y162.length c20] 25 (0, 0)) (by (with_reducible repeat (first | refine blk_drewN ?_ _ | refine blk_drew ?_ | refine blk_alloc ?_ _)); exact BK154.out) hb); have n7_ := Aside0.mk (below_step (by repeat (first | (with_reducible first | exact HB.out | apply below_alloc | apply pw_below_drewN | apply below_drew1 | refine below_set ?_ GE154.out) | exact HB.out)) hb); clear HO147; clear HO150; clear HO164; clear HO157; clear HO167; clear BK154; clear HB; have HO147 := n0_; have HO150 := n1_; have HO164 := n2_; have HO157 := n3_; have HO167 := n4_; have HO172 := n5_; have BK154 := n6_; have HB := n7_; clear n0_ n1_ n2_ n3_ n4_ n5_ n6_ n7_; clear hb ho24; obtain ⟨Ao25, co25, eo25⟩ := Kd.R_slice HO172.out; subst eo25) | ((with_reducible refine gate_dst (N := 45) rfl ?_); (try (refine gate_guard (by rfl) ?_; dsimp only)); refine Kd.R_lit (Kd.int .i64) _ 3 ?hg (N := 45) ?hd (xs := ([1] : List Int)) (inner := [.int .i64 1]) (ok := fun _ => True) (okp := fun _ => True) ?hr ?hp (fun _ hk => hk) trivial (Below.refl _ _) (Nat.le_refl _) (by simp) ?_; (case hd => rfl); (case hg => rfl); (case hr => first | (go_simp; done) | (go_simp; rfl)); (case hp => exact (Reps.one (show Kd.M (Kd.int .i64) _ _ _ 1 [.int .i64 1] from rfl) (Reps.none _ _))); intro v174 w26 ho27 hb hg_ hnew_; clear hg_ hnew_; (first | rw [← Ny173.out] at ho27 | (simp only [Int.reduceToNat] at ho27; rw [← Ny173.out] at ho27)); have n0_ := Aside0.mk (Kd.R_elder' (by (with_reducible repeat (first | apply Kd.R_alloc | apply Kd.R_drewN | apply Kd.R_drew)); exact HO147.out) (Kd.R_base ho27) hb); have n1_ := Aside0.mk (Kd.R_elder' (by (with_reducible repeat (first | apply Kd.R_alloc | apply Kd.R_drewN | apply Kd.R_drew)); exact HO150.out) (Kd.R_base ho27) hb); have n2_ := Aside0.mk (Kd.Q_below (by (with_reducible repeat (first | apply Kd.Q_alloc | apply Kd.Q_drewN | apply Kd.Q_drew)); exact HO164.out) hb); have n3_ := Aside0.mk (Kd.N_elder' (by (with_reducible repeat (first | apply Kd.N_alloc | apply Kd.N_drewN | apply Kd.N_drew)); exact HO157.out) (Kd.R_base ho27) hb); have n4_ := Aside0.mk (Kd.N_elder' (by (with_reducible repeat (first | apply Kd.N_alloc | apply Kd.N_drewN | apply Kd.N_drew)); exact HO167.out) (Kd.R_base ho27) hb); have n5_ := Aside0.mk (Kd.R_elder' (by (with_reducible repeat (first | apply Kd.R_alloc | apply Kd.R_drewN | apply Kd.R_drew)); exact HO172.out) (Kd.R_base ho27) hb); have n6_ := Aside0.mk (Kd.R_lower (Kd.R_new' (Kd.R_new' (Kd.R_new' ho27 (Kd.R_lt (by (with_reducible repeat (first | apply Kd.R_alloc | apply Kd.R_drewN | apply Kd.R_drew)); exact HO147.out))) (Kd.R_lt (by (with_reducible repeat (first | apply Kd.R_alloc | apply Kd.R_drewN | apply Kd.R_drew)); exact HO150.out))) (Kd.R_lt (by (with_reducible repeat (first | apply Kd.R_alloc | apply Kd.R_drewN | apply Kd.R_drew)); exact HO172.out))) (below_size (by repeat (first | (with_reducible first | exact HB.out | apply below_alloc | apply pw_below_drewN | apply below_drew1 | refine below_set ?_ GE154.out) | exact HB.out)))); have n7_ := Aside0.mk (blk_below (g := gb154) (o := .cells #[.slice Ao12 t145.length co12, .slice Ao14 t148.length co14, .slice A20 y162.length c20] 25 (0, 0)) (by (with_reducible repeat (first | refine blk_drewN ?_ _ | refine blk_drew ?_ | refine blk_alloc ?_ _)); exact BK154.out) hb); have n8_ := Aside0.mk (below_step (by repeat (first | (with_reducible first | exact HB.out | apply below_alloc | apply pw_below_drewN | apply below_drew1 | refine below_set ?_ GE154.out) | exact HB.out)) hb); clear HO147; clear HO150; clear HO164; clear HO157; clear HO167; clear HO172; clear BK154; clear HB; have HO147 := n0_; have HO150 := n1_; have HO164 := n2_; have HO157 := n3_; have HO167 := n4_; have HO172 := n5_; have HO175 := n6_; have BK154 := n7_; have HB := n8_; clear n0_ n1_ n2_ n3_ n4_ n5_ n6_ n7_ n8_; clear hb ho27; obtain ⟨Ao28, co28, eo28⟩ := Kd.R_slice HO175.out; subst eo28) | ((with_reducible refine gate_dst (N := 47) rfl ?_); (try (refine gate_guard (by rfl) ?_; dsimp only)); refine Kd.N_lit k43 _ 43 ?hg (N' := 47) ?hd (xs := ([(⟨2, y170⟩ : S43), (⟨0, y173⟩ : S43)] : List (S43))) (inner := [.int .i64 2, .slice Ao25 y170.length co25, .int .i64 0, .slice Ao28 y173.length co28]) (ok := (fun k_ => some k_ ≠ (.slice Ao12 t145.length co12 : Value).ownBlock ∧ some k_ ≠ (.slice Ao14 t148.length co14 : Value).ownBlock ∧ some k_ ≠ (.slice A20 y162.length c20 : Value).ownBlock ∧ some k_ ≠ (v156 : Value).ownBlock ∧ some k_ ≠ (v166 : Value).ownBlock ∧ k_ ≠ gb154)) (okp := (fun k_ => some k_ ≠ (.slice Ao12 t145.length co12 : Value).ownBlock ∧ some k_ ≠ (.slice Ao14 t148.length co14 : Value).ownBlock ∧ some k_ ≠ (.slice A20 y162.length c20 : Value).ownBlock ∧ some k_ ≠ (v156 : Value).ownBlock ∧ some k_ ≠ (v166 : Value).ownBlock ∧ k_ ≠ gb154)) ?hr ?hp (fun _ hk => hk) ((show ∀ k_, w26.heap.size ≤ k_ → (fun k_ => some k_ ≠ (.slice Ao12 t145.length co12 : Value).ownBlock ∧ some k_ ≠ (.slice Ao14 t148.length co14 : Value).ownBlock ∧ some k_ ≠ (.slice A20 y162.length c20 : Value).ownBlock ∧ some k_ ≠ (v156 : Value).ownBlock ∧ some k_ ≠ (v166 : Value).ownBlock ∧ k_ ≠ gb154) k_ from fun k_ hk => ⟨Kd.fresh' (Kd.R_lt (by (with_reducible repeat (first | apply Kd.R_alloc | apply Kd.R_drewN | apply Kd.R_drew)); exact HO147.out)) k_ hk, Kd.fresh' (Kd.R_lt (by (with_reducible repeat (first | apply Kd.R_alloc | apply Kd.R_drewN | apply Kd.R_drew)); exact HO150.out)) k_ hk, Kd.fresh' (Kd.Q_lt (by (with_reducible repeat (first | apply Kd.Q_alloc | apply Kd.Q_drewN | apply Kd.Q_drew)); exact HO164.out)) k_ hk, Kd.fresh' (Kd.N_lt (by (with_reducible repeat (first | apply Kd.N_alloc | apply Kd.N_drewN | apply Kd.N_drew)); exact HO157.out)) k_ hk, Kd.fresh' (Kd.N_lt (by (with_reducible repeat (first | apply Kd.N_alloc | apply Kd.N_drewN | apply Kd.N_drew)); exact HO167.out)) k_ hk, Kd.freshB (g := gb154) (o := .cells #[.slice Ao12 t145.length co12, .slice Ao14 t148.length co14, .slice A20 y162.length c20] 25 (0, 0)) (by (with_reducible repeat (first | refine blk_drewN ?_ _ | refine blk_drew ?_ | refine blk_alloc ?_ _)); exact BK154.out) k_ hk⟩) _ (Nat.le_refl _)) (Below.refl _ _) (Nat.le_refl _) (by simp) ?_; (case hd => rfl); (case hg => rfl); (case hr => first | (go_simp; done) | (go_simp; rfl)); (case hp => exact (Reps.c2 (show Kd.FK k43 _ _ (⟨2, y170⟩ : S43) [.int .i64 2, .slice Ao25 y170.length co25] from (k43_mkF _ _ (⟨2, y170⟩ : S43) (Kd.R_reads' (Kd.R_mono (ok' := (fun k_ => some k_ ≠ (.slice Ao12 t145.length co12 : Value).ownBlock ∧ some k_ ≠ (.slice Ao14 t148.length co14 : Value).ownBlock ∧ some k_ ≠ (.slice A20 y162.length c20 : Value).ownBlock ∧ some k_ ≠ (v156 : Value).ownBlock ∧ some k_ ≠ (v166 : Value).ownBlock ∧ k_ ≠ gb154)) (Kd.R_types (Kd.R_apart' (Kd.R_apart' (Kd.R_apart' (HO172.out) (Kd.Q_typed HO164.out) (by decide)) (Kd.N_typed HO157.out) (by decide)) (Kd.N_typed HO167.out) (by decide)) BK154.out (by decide)) (fun k_ hk => ⟨hk.1.1.1.1.1.1.2, ⟨hk.1.1.1.1.1.2, ⟨hk.1.1.1.2, ⟨hk.1.1.2, ⟨hk.1.2, hk.2⟩⟩⟩⟩⟩))).2.1 (Kd.R_F (Kd.R_mono (ok' := (fun k_ => some k_ ≠ (.slice Ao12 t145.length co12 : Value).ownBlock ∧ some k_ ≠ (.slice Ao14 t148.length co14 : Value).ownBlock ∧ some k_ ≠ (.slice A20 y162.length c20 : Value).ownBlock ∧ some k_ ≠ (v156 : Value).ownBlock ∧ some k_ ≠ (v166 : Value).ownBlock ∧ k_ ≠ gb154)) (Kd.R_types (Kd.R_apart' (Kd.R_apart' (Kd.R_apart' (HO172.out) (Kd.Q_typed HO164.out) (by decide)) (Kd.N_typed HO157.out) (by decide)) (Kd.N_typed HO167.out) (by decide)) BK154.out (by decide)) (fun k_ hk => ⟨hk.1.1.1.1.1.1.2, ⟨hk.1.1.1.1.1.2, ⟨hk.1.1.1.2, ⟨hk.1.1.2, ⟨hk.1.2, hk.2⟩⟩⟩⟩⟩))))) (Reps.c2 (show Kd.FK k43 _ _ (⟨0, y173⟩ : S43) [.int .i64 0, .slice Ao28 y173.length co28] from (k43_mkF _ _ (⟨0, y173⟩ : S43) (Kd.R_reads' (Kd.R_mono (ok' := (fun k_ => some k_ ≠ (.slice Ao12 t145.length co12 : Value).ownBlock ∧ some k_ ≠ (.slice Ao14 t148.length co14 : Value).ownBlock ∧ some k_ ≠ (.slice A20 y162.length c20 : Value).ownBlock ∧ some k_ ≠ (v156 : Value).ownBlock ∧ some k_ ≠ (v166 : Value).ownBlock ∧ k_ ≠ gb154)) (Kd.R_types (Kd.R_apart' (Kd.R_apart' (Kd.R_apart' (HO175.out) (Kd.Q_typed HO164.out) (by decide)) (Kd.N_typed HO157.out) (by decide)) (Kd.N_typed HO167.out) (by decide)) BK154.out (by decide)) (fun k_ hk => ⟨hk.1.1.1.1.1.1.2, ⟨hk.1.1.1.1.1.2, ⟨hk.1.1.1.2, ⟨hk.1.1.2, ⟨hk.1.2, hk.2⟩⟩⟩⟩⟩))).2.1 (Kd.R_F (Kd.R_mono (ok' := (fun k_ => some k_ ≠ (.slice Ao12 t145.length co12 : Value).ownBlock ∧ some k_ ≠ (.slice Ao14 t148.length co14 : Value).ownBlock ∧ some k_ ≠ (.slice A20 y162.length c20 : Value).ownBlock ∧ some k_ ≠ (v156 : Value).ownBlock ∧ some k_ ≠ (v166 : Value).ownBlock ∧ k_ ≠ gb154)) (Kd.R_types (Kd.R_apart' (Kd.R_apart' (Kd.R_apart' (HO175.out) (Kd.Q_typed HO164.out) (by decide)) (Kd.N_typed HO157.out) (by decide)) (Kd.N_typed HO167.out) (by decide)) BK154.out (by decide)) (fun k_ hk => ⟨hk.1.1.1.1.1.1.2, ⟨hk.1.1.1.1.1.2, ⟨hk.1.1.1.2, ⟨hk.1.1.2, ⟨hk.1.2, hk.2⟩⟩⟩⟩⟩))))) (Reps.none _ _)))); intro v177 w29 ho30 hb hg_ hnew_; clear hg_ hnew_; (first | rw [← Ny176.out] at ho30 | (simp only [Int.reduceToNat] at ho30; rw [← Ny176.out] at ho30)); have n0_ := Aside0.mk (Kd.R_below (by (with_reducible repeat (first | apply Kd.R_alloc | apply Kd.R_drewN | apply Kd.R_drew)); exact HO147.out) hb); have n1_ := Aside0.mk (Kd.R_below (by (with_reducible repeat (first | apply Kd.R_alloc | apply Kd.R_drewN | apply Kd.R_drew)); exact HO150.out) hb); have n2_ := Aside0.mk (Kd.Q_below (by (with_reducible repeat (first | apply Kd.Q_alloc | apply Kd.Q_drewN | apply Kd.Q_drew)); exact HO164.out) hb); have n3_ := Aside0.mk (Kd.N_elder' (by (with_reducible repeat (first | apply Kd.N_alloc | apply Kd.N_drewN | apply Kd.N_drew)); exact HO157.out) (Kd.N_base ho30) hb); have n4_ := Aside0.mk (Kd.N_elder' (by (with_reducible repeat (first | apply Kd.N_alloc | apply Kd.N_drewN | apply Kd.N_drew)); exact HO167.out) (Kd.N_base ho30) hb); have n5_ := Aside0.mk (Kd.N_lower ho30 (below_size (by repeat (first | (with_reducible first | exact HB.out | apply below_alloc | apply pw_below_drewN | apply below_drew1 | refine below_set ?_ GE154.out) | exact HB.out)))); have n6_ := Aside0.mk (blk_below (g := gb154) (o := .cells #[.slice Ao12 t145.length co12, .slice Ao14 t148.length co14, .slice A20 y162.length c20] 25 (0, 0)) (by (with_reducible repeat (first | refine blk_drewN ?_ _ | refine blk_drew ?_ | refine blk_alloc ?_ _)); exact BK154.out) hb); have n7_ := Aside0.mk (below_step (by repeat (first | (with_reducible first | exact HB.out | apply below_alloc | apply pw_below_drewN | apply below_drew1 | refine below_set ?_ GE154.out) | exact HB.out)) hb); clear HO147; clear HO150; clear HO164; clear HO157; clear HO167; clear BK154; clear HB; clear HO172; clear HO175; have HO147 := n0_; have HO150 := n1_; have HO164 := n2_; have HO157 := n3_; have HO167 := n4_; have HO178 := n5_; have BK154 := n6_; have HB := n7_; clear n0_ n1_ n2_ n3_ n4_ n5_ n6_ n7_; clear hb ho30; obtain ⟨Ao31, co31, eo31⟩ := Kd.N_slice HO178.out; subst eo31) | ((with_reducible refine gate_callee (f := 16) rfl ?_); refine goesL_ (some 48) rfl rfl Try.func16 (by kernel_rfl) rfl #[.agg #[.slice Ao12 t145.length co12, .slice Ao14 t148.length co14, .slice A20 y162.length c20], .slice Ao31 y176.length co31] rfl (by (try simp only [List.map_toArray, List.map_cons, List.map_nil]); first | done | rfl | (simp only [List.length_drop, List.length_take]; rfl)) ?_; (with_reducible refine (skiarealaw24_cost.calls k _ _ t145 _ _ t148 _ _ y162 _ _ y176 t179 t180 _ ?side1 ?side2 ?side3 ?side4 ?side5 ?side6 ?side7 ?side8 A6.out).mono ?_); (case side1 => repeat (first | exact (Kd.R_reads' HO147.out).2.2 | (with_reducible refine Kd.C_alloc ?_ _) | (with_reducible refine Kd.C_drewN ?_ _) | (with_reducible refine Kd.C_drew ?_))); (case side2 => exact (Kd.R_reads' HO147.out).2.1); (case side3 => repeat (first | exact (Kd.R_reads' HO150.out).2.2 | (with_reducible refine Kd.C_alloc ?_ _) | (with_reducible refine Kd.C_drewN ?_ _) | (with_reducible refine Kd.C_drew ?_))); (case side4 => exact (Kd.R_reads' HO150.out).2.1); (case side5 => repeat (first | exact (Kd.Q_reads' HO164.out).2.2 | (with_reducible refine Kd.C_alloc ?_ _) | (with_reducible refine Kd.C_drewN ?_ _) | (with_reducible refine Kd.C_drew ?_))); (case side6 => exact (Kd.Q_reads' HO164.out).2.1); (case side7 => repeat (first | exact (Kd.N_reads' HO178.out).2.2 | (with_reducible refine Kd.C_alloc ?_ _) | (with_reducible refine Kd.C_drewN ?_ _) | (with_reducible refine Kd.C_drew ?_))); (case side8 => exact (Kd.N_reads' HO178.out).2.1); rintro e w32 ⟨rfl, hb⟩; refine ⟨_, rfl, ?_⟩; have n0_ := Aside0.mk (Kd.R_below (by (with_reducible repeat (first | apply Kd.R_alloc | apply Kd.R_drewN | apply Kd.R_drew)); exact HO147.out) hb); have n1_ := Aside0.mk (Kd.R_below (by (with_reducible repeat (first | apply Kd.R_alloc | apply Kd.R_drewN | apply Kd.R_drew)); exact HO150.out) hb); have n2_ := Aside0.mk (Kd.Q_below (by (with_reducible repeat (first | apply Kd.Q_alloc | apply Kd.Q_drewN | apply Kd.Q_drew)); exact HO164.out) hb); have n3_ := Aside0.mk (Kd.N_below (by (with_reducible repeat (first | apply Kd.N_alloc | apply Kd.N_drewN | apply Kd.N_drew)); exact HO157.out) hb); have n4_ := Aside0.mk (Kd.N_below (by (with_reducible repeat (first | apply Kd.N_alloc | apply Kd.N_drewN | apply Kd.N_drew)); exact HO167.out) hb); have n5_ := Aside0.mk (Kd.N_below (by (with_reducible repeat (first | apply Kd.N_alloc | apply Kd.N_drewN | apply Kd.N_drew)); exact HO178.out) hb); have n6_ := Aside0.mk (blk_below (g := gb154) (o := .cells #[.slice Ao12 t145.length co12, .slice Ao14 t148.length co14, .slice A20 y162.length c20] 25 (0, 0)) (by (with_reducible repeat (first | refine blk_drewN ?_ _ | refine blk_drew ?_ | refine blk_alloc ?_ _)); exact BK154.out) hb); have n7_ := Aside0.mk (below_step (by repeat (first | (with_reducible first | exact HB.out | apply below_alloc | apply pw_below_drewN | apply below_drew1 | refine below_set ?_ GE154.out) | exact HB.out)) hb); clear HO147; clear HO150; clear HO164; clear HO157; clear HO167; clear HO178; clear BK154; clear HB; have HO147 := n0_; have HO150 := n1_; have HO164 := n2_; have HO157 := n3_; have HO167 := n4_; have HO178 := n5_; have BK154 := n6_; have HB := n7_; clear n0_ n1_ n2_ n3_ n4_ n5_ n6_ n7_; (try clear hb); (try clear hb2); (try clear hk); (try clear hi)) | ((with_reducible refine gate_callee (f := 23) rfl ?_); refine goesL_ (some 52) rfl rfl Try.func23 (by kernel_rfl) rfl #[] rfl (by (try simp only [List.map_toArray, List.map_cons, List.map_nil]); first | done | rfl | (simp only [List.length_drop, List.length_take]; rfl)) ?_; (with_reducible refine (skiarealaw24_sample.calls  t181 t184 t187 _ A7.out).mono ?_); rintro e w33 ⟨v182, v185, v188, rfl, ho0, ho1, ho2, hb⟩; refine ⟨_, rfl, ?_⟩; have n0_ := Aside0.mk (Kd.R_mono (Kd.R_told (Kd.R_told (Kd.R_old (by (with_reducible repeat (first | apply Kd.R_alloc | apply Kd.R_drewN | apply Kd.R_drew)); exact HO147.out) hb) (Kd.R_base ho0)) (Kd.R_base ho1)) (fun _ h_ => h_.1)); have n1_ := Aside0.mk (Kd.R_mono (Kd.R_told (Kd.R_told (Kd.R_old (by (with_reducible repeat (first | apply Kd.R_alloc | apply Kd.R_drewN | apply Kd.R_drew)); exact HO150.out) hb) (Kd.R_base ho0)) (Kd.R_base ho1)) (fun _ h_ => h_.1)); have n2_ := Aside0.mk (Kd.Q_elder' (by (with_reducible repeat (first | apply Kd.Q_alloc | apply Kd.Q_drewN | apply Kd.Q_drew)); exact HO164.out) (Kd.R_base ho2) hb); have n3_ := Aside0.mk (Kd.N_mono (Kd.N_told (Kd.N_told (Kd.N_told (Kd.N_old (by (with_reducible repeat (first | apply Kd.N_alloc | apply Kd.N_drewN | apply Kd.N_drew)); exact HO157.out) hb) (Kd.R_base ho0)) (Kd.R_base ho1)) (Kd.R_base ho2)) (fun _ h_ => h_.1)); have n4_ := Aside0.mk (Kd.N_mono (Kd.N_told (Kd.N_told (Kd.N_told (Kd.N_old (by (with_reducible repeat (first | apply Kd.N_alloc | apply Kd.N_drewN | apply Kd.N_drew)); exact HO167.out) hb) (Kd.R_base ho0)) (Kd.R_base ho1)) (Kd.R_base ho2)) (fun _ h_ => h_.1)); have n5_ := Aside0.mk (Kd.N_mono (Kd.N_told (Kd.N_told (Kd.N_told (Kd.N_old (by (with_reducible repeat (first | apply Kd.N_alloc | apply Kd.N_drewN | apply Kd.N_drew)); exact HO178.out) hb) (Kd.R_base ho0)) (Kd.R_base ho1)) (Kd.R_base ho2)) (fun _ h_ => h_.1)); have n6_ := Aside0.mk (Kd.R_lower (Kd.R_new' (Kd.R_new' ho0 (Kd.R_lt (by (with_reducible repeat (first | apply Kd.R_alloc | apply Kd.R_drewN | apply Kd.R_drew)); exact HO147.out))) (Kd.R_lt (by (with_reducible repeat (first | apply Kd.R_alloc | apply Kd.R_drewN | apply Kd.R_drew)); exact HO150.out))) (below_size (by repeat (first | (with_reducible first | exact HB.out | apply below_alloc | apply pw_below_drewN | apply below_drew1 | refine below_set ?_ GE154.out) | exact HB.out)))); have n7_ := Aside0.mk (Kd.R_lower (Kd.R_new' (Kd.R_new' ho1 (Kd.R_lt (by (with_reducible repeat (first | apply Kd.R_alloc | apply Kd.R_drewN | apply Kd.R_drew)); exact HO147.out))) (Kd.R_lt (by (with_reducible repeat (first | apply Kd.R_alloc | apply Kd.R_drewN | apply Kd.R_drew)); exact HO150.out))) (below_size (by repeat (first | (with_reducible first | exact HB.out | apply below_alloc | apply pw_below_drewN | apply below_drew1 | refine below_set ?_ GE154.out) | exact HB.out)))); have n8_ := Aside0.mk (Kd.R_lower (Kd.R_new' ho2 (Kd.Q_lt (by (with_reducible repeat (first | apply Kd.Q_alloc | apply Kd.Q_drewN | apply Kd.Q_drew)); exact HO164.out))) (below_size (by repeat (first | (with_reducible first | exact HB.out | apply below_alloc | apply pw_below_drewN | apply below_drew1 | refine below_set ?_ GE154.out) | exact HB.out)))); have n9_ := Aside0.mk (blk_below (g := gb154) (o := .cells #[.slice Ao12 t145.length co12, .slice Ao14 t148.length co14, .slice A20 y162.length c20] 25 (0, 0)) (by (with_reducible repeat (first | refine blk_drewN ?_ _ | refine blk_drew ?_ | refine blk_alloc ?_ _)); exact BK154.out) hb); have n10_ := Aside0.mk (below_step (by repeat (first | (with_reducible first | exact HB.out | apply below_alloc | apply pw_below_drewN | apply below_drew1 | refine below_set ?_ GE154.out) | exact HB.out)) hb); clear HO147; clear HO150; clear HO164; clear HO157; clear HO167; clear HO178; clear BK154; clear HB; have HO147 := n0_; have HO150 := n1_; have HO164 := n2_; have HO157 := n3_; have HO167 := n4_; have HO178 := n5_; have HO183 := n6_; have HO186 := n7_; have HO189 := n8_; have BK154 := n9_; have HB := n10_; clear n0_ n1_ n2_ n3_ n4_ n5_ n6_ n7_ n8_ n9_ n10_; (try clear hb); (try clear hb2); (try clear hk); (try clear hi); (try clear ho0); (try clear ho1); (try clear ho2)) | ((with_reducible refine gate_dst (N := 53) rfl ?_); (try (refine gate_guard (by rfl) ?_; dsimp only)); refine Kd.R_lit (Kd.int .i64) _ 3 ?hg (N := 53) ?hd (xs := ([0, 1, 2] : List Int)) (inner := [.int .i64 0, .int .i64 1, .int .i64 2]) (ok := fun _ => True) (okp := fun _ => True) ?hr ?hp (fun _ hk => hk) trivial (Below.refl _ _) (Nat.le_refl _) (by simp) ?_; (case hd => rfl); (case hg => rfl); (case hr => first | (go_simp; done) | (go_simp; rfl)); (case hp => exact (Reps.one (show Kd.M (Kd.int .i64) _ _ _ 0 [.int .i64 0] from rfl) (Reps.one (show Kd.M (Kd.int .i64) _ _ _ 1 [.int .i64 1] from rfl) (Reps.one (show Kd.M (Kd.int .i64) _ _ _ 2 [.int .i64 2] from rfl) (Reps.none _ _))))); intro v191 w34 ho35 hb hg_ hnew_; clear hg_ hnew_; (first | rw [← Ny190.out] at ho35 | (simp only [Int.reduceToNat] at ho35; rw [← Ny190.out] at ho35)); have n0_ := Aside0.mk (Kd.R_elder' (by (with_reducible repeat (first | apply Kd.R_alloc | apply Kd.R_drewN | apply Kd.R_drew)); exact HO147.out) (Kd.R_base ho35) hb); have n1_ := Aside0.mk (Kd.R_elder' (by (with_reducible repeat (first | apply Kd.R_alloc | apply Kd.R_drewN | apply Kd.R_drew)); exact HO150.out) (Kd.R_base ho35) hb); have n2_ := Aside0.mk (Kd.Q_below (by (with_reducible repeat (first | apply Kd.Q_alloc | apply Kd.Q_drewN | apply Kd.Q_drew)); exact HO164.out) hb); have n3_ := Aside0.mk (Kd.N_elder' (by (with_reducible repeat (first | apply Kd.N_alloc | apply Kd.N_drewN | apply Kd.N_drew)); exact HO157.out) (Kd.R_base ho35) hb); have n4_ := Aside0.mk (Kd.N_elder' (by (with_reducible repeat (first | apply Kd.N_alloc | apply Kd.N_drewN | apply Kd.N_drew)); exact HO167.out) (Kd.R_base ho35) hb); have n5_ := Aside0.mk (Kd.N_elder' (by (with_reducible repeat (first | apply Kd.N_alloc | apply Kd.N_drewN | apply Kd.N_drew)); exact HO178.out) (Kd.R_base ho35) hb); have n6_ := Aside0.mk (Kd.R_elder' (by (with_reducible repeat (first | apply Kd.R_alloc | apply Kd.R_drewN | apply Kd.R_drew)); exact HO183.out) (Kd.R_base ho35) hb); have n7_ := Aside0.mk (Kd.R_elder' (by (with_reducible repeat (first | apply Kd.R_alloc | apply Kd.R_drewN | apply Kd.R_drew)); exact HO186.out) (Kd.R_base ho35) hb); have n8_ := Aside0.mk (Kd.R_below (by (with_reducible repeat (first | apply Kd.R_alloc | apply Kd.R_drewN | apply Kd.R_drew)); exact HO189.out) hb); have n9_ := Aside0.mk (Kd.R_lower (Kd.R_new' (Kd.R_new' (Kd.R_new' (Kd.R_new' ho35 (Kd.R_lt (by (with_reducible repeat (first | apply Kd.R_alloc | apply Kd.R_drewN | apply Kd.R_drew)); exact HO147.out))) (Kd.R_lt (by (with_reducible repeat (first | apply Kd.R_alloc | apply Kd.R_drewN | apply Kd.R_drew)); exact HO150.out))) (Kd.R_lt (by (with_reducible repeat (first | apply Kd.R_alloc | apply Kd.R_drewN | apply Kd.R_drew)); exact HO183.out))) (Kd.R_lt (by (with_reducible repeat (first | apply Kd.R_alloc | apply Kd.R_drewN | apply Kd.R_drew)); exact HO186.out))) (below_size (by repeat (first | (with_reducible first | exact HB.out | apply below_alloc | apply pw_below_drewN | apply below_drew1 | refine below_set ?_ GE154.out) | exact HB.out)))); have n10_ := Aside0.mk (blk_below (g := gb154) (o := .cells #[.slice Ao12 t145.length co12, .slice Ao14 t148.length co14, .slice A20 y162.length c20] 25 (0, 0)) (by (with_reducible repeat (first | refine blk_drewN ?_ _ | refine blk_drew ?_ | refine blk_alloc ?_ _)); exact BK154.out) hb); have n11_ := Aside0.mk (below_step (by repeat (first | (with_reducible first | exact HB.out | apply below_alloc | apply pw_below_drewN | apply below_drew1 | refine below_set ?_ GE154.out) | exact HB.out)) hb); clear HO147; clear HO150; clear HO164; clear HO157; clear HO167; clear HO178; clear HO183; clear HO186; clear HO189; clear BK154; clear HB; have HO147 := n0_; have HO150 := n1_; have HO164 := n2_; have HO157 := n3_; have HO167 := n4_; have HO178 := n5_; have HO183 := n6_; have HO186 := n7_; have HO189 := n8_; have HO192 := n9_; have BK154 := n10_; have HB := n11_; clear n0_ n1_ n2_ n3_ n4_ n5_ n6_ n7_ n8_ n9_ n10_ n11_; clear hb ho35; obtain ⟨Ao36, co36, eo36⟩ := Kd.R_slice HO192.out; subst eo36) | ((with_reducible refine gate_dst (N := 55) rfl ?_); (try (refine gate_guard (by rfl) ?_; dsimp only)); refine Kd.N_lit k43 _ 43 ?hg (N' := 55) ?hd (xs := ([(⟨1, y190⟩ : S43)] : List (S43))) (inner := [.int .i64 1, .slice Ao36 y190.length co36]) (ok := (fun k_ => some k_ ≠ (.slice Ao12 t145.length co12 : Value).ownBlock ∧ some k_ ≠ (.slice Ao14 t148.length co14 : Value).ownBlock ∧ some k_ ≠ (.slice A20 y162.length c20 : Value).ownBlock ∧ some k_ ≠ (v156 : Value).ownBlock ∧ some k_ ≠ (v166 : Value).ownBlock ∧ some k_ ≠ (.slice Ao31 y176.length co31 : Value).ownBlock ∧ some k_ ≠ (v182 : Value).ownBlock ∧ some k_ ≠ (v185 : Value).ownBlock ∧ some k_ ≠ (v188 : Value).ownBlock ∧ k_ ≠ gb154)) (okp := (fun k_ => some k_ ≠ (.slice Ao12 t145.length co12 : Value).ownBlock ∧ some k_ ≠ (.slice Ao14 t148.length co14 : Value).ownBlock ∧ some k_ ≠ (.slice A20 y162.length c20 : Value).ownBlock ∧ some k_ ≠ (v156 : Value).ownBlock ∧ some k_ ≠ (v166 : Value).ownBlock ∧ some k_ ≠ (.slice Ao31 y176.length co31 : Value).ownBlock ∧ some k_ ≠ (v182 : Value).ownBlock ∧ some k_ ≠ (v185 : Value).ownBlock ∧ some k_ ≠ (v188 : Value).ownBlock ∧ k_ ≠ gb154)) ?hr ?hp (fun _ hk => hk) ((show ∀ k_, w34.heap.size ≤ k_ → (fun k_ => some k_ ≠ (.slice Ao12 t145.length co12 : Value).ownBlock ∧ some k_ ≠ (.slice Ao14 t148.length co14 : Value).ownBlock ∧ some k_ ≠ (.slice A20 y162.length c20 : Value).ownBlock ∧ some k_ ≠ (v156 : Value).ownBlock ∧ some k_ ≠ (v166 : Value).ownBlock ∧ some k_ ≠ (.slice Ao31 y176.length co31 : Value).ownBlock ∧ some k_ ≠ (v182 : Value).ownBlock ∧ some k_ ≠ (v185 : Value).ownBlock ∧ some k_ ≠ (v188 : Value).ownBlock ∧ k_ ≠ gb154) k_ from fun k_ hk => ⟨Kd.fresh' (Kd.R_lt (by (with_reducible repeat (first | apply Kd.R_alloc | apply Kd.R_drewN | apply Kd.R_drew)); exact HO147.out)) k_ hk, Kd.fresh' (Kd.R_lt (by (with_reducible repeat (first | apply Kd.R_alloc | apply Kd.R_drewN | apply Kd.R_drew)); exact HO150.out)) k_ hk, Kd.fresh' (Kd.Q_lt (by (with_reducible repeat (first | apply Kd.Q_alloc | apply Kd.Q_drewN | apply Kd.Q_drew)); exact HO164.out)) k_ hk, Kd.fresh' (Kd.N_lt (by (with_reducible repeat (first | apply Kd.N_alloc | apply Kd.N_drewN | apply Kd.N_drew)); exact HO157.out)) k_ hk, Kd.fresh' (Kd.N_lt (by (with_reducible repeat (first | apply Kd.N_alloc | apply Kd.N_drewN | apply Kd.N_drew)); exact HO167.out)) k_ hk, Kd.fresh' (Kd.N_lt (by (with_reducible repeat (first | apply Kd.N_alloc | apply Kd.N_drewN | apply Kd.N_drew)); exact HO178.out)) k_ hk, Kd.fresh' (Kd.R_lt (by (with_reducible repeat (first | apply Kd.R_alloc | apply Kd.R_drewN | apply Kd.R_drew)); exact HO183.out)) k_ hk, Kd.fresh' (Kd.R_lt (by (with_reducible repeat (first | apply Kd.R_alloc | apply Kd.R_drewN | apply Kd.R_drew)); exact HO186.out)) k_ hk, Kd.fresh' (Kd.R_lt (by (with_reducible repeat (first | apply Kd.R_alloc | apply Kd.R_drewN | apply Kd.R_drew)); exact HO189.out)) k_ hk, Kd.freshB (g := gb154) (o := .cells #[.slice Ao12 t145.length co12, .slice Ao14 t148.length co14, .slice A20 y162.length c20] 25 (0, 0)) (by (with_reducible repeat (first | refine blk_drewN ?_ _ | refine blk_drew ?_ | refine blk_alloc ?_ _)); exact BK154.out) k_ hk⟩) _ (Nat.le_refl _)) (Below.refl _ _) (Nat.le_refl _) (by simp) ?_; (case hd => rfl); (case hg => rfl); (case hr => first | (go_simp; done) | (go_simp; rfl)); (case hp => exact (Reps.c2 (show Kd.FK k43 _ _ (⟨1, y190⟩ : S43) [.int .i64 1, .slice Ao36 y190.length co36] from (k43_mkF _ _ (⟨1, y190⟩ : S43) (Kd.R_reads' (Kd.R_mono (ok' := (fun k_ => some k_ ≠ (.slice Ao12 t145.length co12 : Value).ownBlock ∧ some k_ ≠ (.slice Ao14 t148.length co14 : Value).ownBlock ∧ some k_ ≠ (.slice A20 y162.length c20 : Value).ownBlock ∧ some k_ ≠ (v156 : Value).ownBlock ∧ some k_ ≠ (v166 : Value).ownBlock ∧ some k_ ≠ (.slice Ao31 y176.length co31 : Value).ownBlock ∧ some k_ ≠ (v182 : Value).ownBlock ∧ some k_ ≠ (v185 : Value).ownBlock ∧ some k_ ≠ (v188 : Value).ownBlock ∧ k_ ≠ gb154)) (Kd.R_types (Kd.R_apart' (Kd.R_apart' (Kd.R_apart' (Kd.R_apart' (Kd.R_apart' (HO192.out) (Kd.Q_typed HO164.out) (by decide)) (Kd.N_typed HO157.out) (by decide)) (Kd.N_typed HO167.out) (by decide)) (Kd.N_typed HO178.out) (by decide)) (Kd.R_typed HO189.out) (by decide)) BK154.out (by decide)) (fun k_ hk => ⟨hk.1.1.1.1.1.1.1.1.1.2, ⟨hk.1.1.1.1.1.1.1.1.2, ⟨hk.1.1.1.1.1.2, ⟨hk.1.1.1.1.2, ⟨hk.1.1.1.2, ⟨hk.1.1.2, ⟨hk.1.1.1.1.1.1.1.2, ⟨hk.1.1.1.1.1.1.2, ⟨hk.1.2, hk.2⟩⟩⟩⟩⟩⟩⟩⟩⟩))).2.1 (Kd.R_F (Kd.R_mono (ok' := (fun k_ => some k_ ≠ (.slice Ao12 t145.length co12 : Value).ownBlock ∧ some k_ ≠ (.slice Ao14 t148.length co14 : Value).ownBlock ∧ some k_ ≠ (.slice A20 y162.length c20 : Value).ownBlock ∧ some k_ ≠ (v156 : Value).ownBlock ∧ some k_ ≠ (v166 : Value).ownBlock ∧ some k_ ≠ (.slice Ao31 y176.length co31 : Value).ownBlock ∧ some k_ ≠ (v182 : Value).ownBlock ∧ some k_ ≠ (v185 : Value).ownBlock ∧ some k_ ≠ (v188 : Value).ownBlock ∧ k_ ≠ gb154)) (Kd.R_types (Kd.R_apart' (Kd.R_apart' (Kd.R_apart' (Kd.R_apart' (Kd.R_apart' (HO192.out) (Kd.Q_typed HO164.out) (by decide)) (Kd.N_typed HO157.out) (by decide)) (Kd.N_typed HO167.out) (by decide)) (Kd.N_typed HO178.out) (by decide)) (Kd.R_typed HO189.out) (by decide)) BK154.out (by decide)) (fun k_ hk => ⟨hk.1.1.1.1.1.1.1.1.1.2, ⟨hk.1.1.1.1.1.1.1.1.2, ⟨hk.1.1.1.1.1.2, ⟨hk.1.1.1.1.2, ⟨hk.1.1.1.2, ⟨hk.1.1.2, ⟨hk.1.1.1.1.1.1.1.2, ⟨hk.1.1.1.1.1.1.2, ⟨hk.1.2, hk.2⟩⟩⟩⟩⟩⟩⟩⟩⟩))))) (Reps.none _ _))); intro v194 w37 ho38 hb hg_ hnew_; clear hg_ hnew_; (first | rw [← Ny193.out] at ho38 | (simp only [Int.reduceToNat] at ho38; rw [← Ny193.out] at ho38)); have n0_ := Aside0.mk (Kd.R_below (by (with_reducible repeat (first | apply Kd.R_alloc | apply Kd.R_drewN | apply Kd.R_drew)); exact HO147.out) hb); have n1_ := Aside0.mk (Kd.R_below (by (with_reducible repeat (first | apply Kd.R_alloc | apply Kd.R_drewN | apply Kd.R_drew)); exact HO150.out) hb); have n2_ := Aside0.mk (Kd.Q_below (by (with_reducible repeat (first | apply Kd.Q_alloc | apply Kd.Q_drewN | apply Kd.Q_drew)); exact HO164.out) hb); have n3_ := Aside0.mk (Kd.N_elder' (by (with_reducible repeat (first | apply Kd.N_alloc | apply Kd.N_drewN | apply Kd.N_drew)); exact HO157.out) (Kd.N_base ho38) hb); have n4_ := Aside0.mk (Kd.N_elder' (by (with_reducible repeat (first | apply Kd.N_alloc | apply Kd.N_drewN | apply Kd.N_drew)); exact HO167.out) (Kd.N_base ho38) hb); have n5_ := Aside0.mk (Kd.N_elder' (by (with_reducible repeat (first | apply Kd.N_alloc | apply Kd.N_drewN | apply Kd.N_drew)); exact HO178.out) (Kd.N_base ho38) hb); have n6_ := Aside0.mk (Kd.R_below (by (with_reducible repeat (first | apply Kd.R_alloc | apply Kd.R_drewN | apply Kd.R_drew)); exact HO183.out) hb); have n7_ := Aside0.mk (Kd.R_below (by (with_reducible repeat (first | apply Kd.R_alloc | apply Kd.R_drewN | apply Kd.R_drew)); exact HO186.out) hb); have n8_ := Aside0.mk (Kd.R_below (by (with_reducible repeat (first | apply Kd.R_alloc | apply Kd.R_drewN | apply Kd.R_drew)); exact HO189.out) hb); have n9_ := Aside0.mk (Kd.N_lower ho38 (below_size (by repeat (first | (with_reducible first | exact HB.out | apply below_alloc | apply pw_below_drewN | apply below_drew1 | refine below_set ?_ GE154.out) | exact HB.out)))); have n10_ := Aside0.mk (blk_below (g := gb154) (o := .cells #[.slice Ao12 t145.length co12, .slice Ao14 t148.length co14, .slice A20 y162.length c20] 25 (0, 0)) (by (with_reducible repeat (first | refine blk_drewN ?_ _ | refine blk_drew ?_ | refine blk_alloc ?_ _)); exact BK154.out) hb); have n11_ := Aside0.mk (below_step (by repeat (first | (with_reducible first | exact HB.out | apply below_alloc | apply pw_below_drewN | apply below_drew1 | refine below_set ?_ GE154.out) | exact HB.out)) hb); clear HO147; clear HO150; clear HO164; clear HO157; clear HO167; clear HO178; clear HO183; clear HO186; clear HO189; clear BK154; clear HB; clear HO192; have HO147 := n0_; have HO150 := n1_; have HO164 := n2_; have HO157 := n3_; have HO167 := n4_; have HO178 := n5_; have HO183 := n6_; have HO186 := n7_; have HO189 := n8_; have HO195 := n9_; have BK154 := n10_; have HB := n11_; clear n0_ n1_ n2_ n3_ n4_ n5_ n6_ n7_ n8_ n9_ n10_ n11_; clear hb ho38; obtain ⟨Ao39, co39, eo39⟩ := Kd.R_slice HO183.out; subst eo39; obtain ⟨Ao40, co40, eo40⟩ := Kd.R_slice HO186.out; subst eo40; obtain ⟨Ao41, co41, eo41⟩ := Kd.R_slice HO189.out; subst eo41; obtain ⟨Ao42, co42, eo42⟩ := Kd.N_slice HO195.out; subst eo42) | ((with_reducible refine gate_callee (f := 16) rfl ?_); refine goesL_ (some 56) rfl rfl Try.func16 (by kernel_rfl) rfl #[.agg #[.slice Ao39 t181.length co39, .slice Ao40 t184.length co40, .slice Ao41 t187.length co41], .slice Ao42 y193.length co42] rfl (by (try simp only [List.map_toArray, List.map_cons, List.map_nil]); first | done | rfl | (simp only [List.length_drop, List.length_take]; rfl)) ?_; (with_reducible refine (skiarealaw24_cost.calls k _ _ t181 _ _ t184 _ _ t187 _ _ y193 t196 t197 _ ?side1 ?side2 ?side3 ?side4 ?side5 ?side6 ?side7 ?side8 A8.out).mono ?_); (case side1 => repeat (first | exact (Kd.R_reads' HO183.out).2.2 | (with_reducible refine Kd.C_alloc ?_ _) | (with_reducible refine Kd.C_drewN ?_ _) | (with_reducible refine Kd.C_drew ?_))); (case side2 => exact (Kd.R_reads' HO183.out).2.1); (case side3 => repeat (first | exact (Kd.R_reads' HO186.out).2.2 | (with_reducible refine Kd.C_alloc ?_ _) | (with_reducible refine Kd.C_drewN ?_ _) | (with_reducible refine Kd.C_drew ?_))); (case side4 => exact (Kd.R_reads' HO186.out).2.1); (case side5 => repeat (first | exact (Kd.R_reads' HO189.out).2.2 | (with_reducible refine Kd.C_alloc ?_ _) | (with_reducible refine Kd.C_drewN ?_ _) | (with_reducible refine Kd.C_drew ?_))); (case side6 => exact (Kd.R_reads' HO189.out).2.1); (case side7 => repeat (first | exact (Kd.N_reads' HO195.out).2.2 | (with_reducible refine Kd.C_alloc ?_ _) | (with_reducible refine Kd.C_drewN ?_ _) | (with_reducible refine Kd.C_drew ?_))); (case side8 => exact (Kd.N_reads' HO195.out).2.1); rintro e w43 ⟨rfl, hb⟩; refine ⟨_, rfl, ?_⟩; have n0_ := Aside0.mk (Kd.R_below (by (with_reducible repeat (first | apply Kd.R_alloc | apply Kd.R_drewN | apply Kd.R_drew)); exact HO147.out) hb); have n1_ := Aside0.mk (Kd.R_below (by (with_reducible repeat (first | apply Kd.R_alloc | apply Kd.R_drewN | apply Kd.R_drew)); exact HO150.out) hb); have n2_ := Aside0.mk (Kd.Q_below (by (with_reducible repeat (first | apply Kd.Q_alloc | apply Kd.Q_drewN | apply Kd.Q_drew)); exact HO164.out) hb); have n3_ := Aside0.mk (Kd.N_below (by (with_reducible repeat (first | apply Kd.N_alloc | apply Kd.N_drewN | apply Kd.N_drew)); exact HO157.out) hb); have n4_ := Aside0.mk (Kd.N_below (by (with_reducible repeat (first | apply Kd.N_alloc | apply Kd.N_drewN | apply Kd.N_drew)); exact HO167.out) hb); have n5_ := Aside0.mk (Kd.N_below (by (with_reducible repeat (first | apply Kd.N_alloc | apply Kd.N_drewN | apply Kd.N_drew)); exact HO178.out) hb); have n6_ := Aside0.mk (Kd.R_below (by (with_reducible repeat (first | apply Kd.R_alloc | apply Kd.R_drewN | apply Kd.R_drew)); exact HO183.out) hb); have n7_ := Aside0.mk (Kd.R_below (by (with_reducible repeat (first | apply Kd.R_alloc | apply Kd.R_drewN | apply Kd.R_drew)); exact HO186.out) hb); have n8_ := Aside0.mk (Kd.R_below (by (with_reducible repeat (first | apply Kd.R_alloc | apply Kd.R_drewN | apply Kd.R_drew)); exact HO189.out) hb); have n9_ := Aside0.mk (Kd.N_below (by (with_reducible repeat (first | apply Kd.N_alloc | apply Kd.N_drewN | apply Kd.N_drew)); exact HO195.out) hb); have n10_ := Aside0.mk (blk_below (g := gb154) (o := .cells #[.slice Ao12 t145.length co12, .slice Ao14 t148.length co14, .slice A20 y162.length c20] 25 (0, 0)) (by (with_reducible repeat (first | refine blk_drewN ?_ _ | refine blk_drew ?_ | refine blk_alloc ?_ _)); exact BK154.out) hb); have n11_ := Aside0.mk (below_step (by repeat (first | (with_reducible first | exact HB.out | apply below_alloc | apply pw_below_drewN | apply below_drew1 | refine below_set ?_ GE154.out) | exact HB.out)) hb); clear HO147; clear HO150; clear HO164; clear HO157; clear HO167; clear HO178; clear HO183; clear HO186; clear HO189; clear HO195; clear BK154; clear HB; have HO147 := n0_; have HO150 := n1_; have HO164 := n2_; have HO157 := n3_; have HO167 := n4_; have HO178 := n5_; have HO183 := n6_; have HO186 := n7_; have HO189 := n8_; have HO195 := n9_; have BK154 := n10_; have HB := n11_; clear n0_ n1_ n2_ n3_ n4_ n5_ n6_ n7_ n8_ n9_ n10_ n11_; (try clear hb); (try clear hb2); (try clear hk); (try clear hi)))
  (try simp only [Act.put, List.setIfInBounds_toArray, List.set_cons_zero, List.set_cons_succ])
  go_cut [95] (fun v95 wc => ∃ (kq : Nat) (x95_8 : Bool), v95 = .bool x95_8 ∧ Aside0 (skiarealaw24_alive.j0 kq t155 t165 x95_8 t145 t148 y162 = some r) ∧ Aside0 (kq ≤ k) ∧ Aside0 (Kd.N k43 43 wc w.heap.size (fun k_ => some k_ ≠ (v166 : Value).ownBlock ∧ some k_ ≠ ((.slice Ao12 t145.length co12) : Value).ownBlock ∧ some k_ ≠ ((.slice Ao14 t148.length co14) : Value).ownBlock ∧ some k_ ≠ ((.slice A20 y162.length c20) : Value).ownBlock ∧ k_ ≠ gb154) v156 t155) ∧ Aside0 (Kd.N k43 43 wc w.heap.size (fun k_ => some k_ ≠ (v156 : Value).ownBlock ∧ some k_ ≠ ((.slice Ao12 t145.length co12) : Value).ownBlock ∧ some k_ ≠ ((.slice Ao14 t148.length co14) : Value).ownBlock ∧ some k_ ≠ ((.slice A20 y162.length c20) : Value).ownBlock ∧ k_ ≠ gb154) v166 t165) ∧ Aside0 (Kd.R (Kd.int .i64) 3 wc w.heap.size (fun k_ => some k_ ≠ ((.slice Ao14 t148.length co14) : Value).ownBlock) (.slice Ao12 t145.length co12) t145) ∧ Aside0 (Kd.R (Kd.int .i64) 3 wc w.heap.size (fun k_ => some k_ ≠ ((.slice Ao12 t145.length co12) : Value).ownBlock) (.slice Ao14 t148.length co14) t148) ∧ Aside0 (Kd.Q k45 45 wc w.heap.size (fun _ => True) (.slice A20 y162.length c20) y162) ∧ Aside0 (wc.heap[gb154]? = some (.cells #[(.slice Ao12 t145.length co12), (.slice Ao14 t148.length co14), (.slice A20 y162.length c20)] 25 (0, 0))) ∧ Aside0 (Below w.heap.size w wc))
  case first =>
   have H := HC9.out
   clear HC9
   by_cases c44 : t159 = 0
   ·rw [if_pos c44] at H
    have c44b0 : (t159 == 0) = true := beq_iff_eq.mpr c44
    have c44b1 : (t159 != 0) = false := bne_eq_false_iff_eq.mpr c44
    clear c44
    (first | rw [c44b0] | (simp only [i64_w, i32_w]; rw [c44b0]) | skip)
    by_cases c45 : t161 = 0
    ·rw [if_pos c45] at H
     have c45b0 : (t161 == 0) = true := beq_iff_eq.mpr c45
     have c45b1 : (t161 != 0) = false := bne_eq_false_iff_eq.mpr c45
     clear c45
     by_cases c46 : t169 = 0
     ·rw [if_pos c46] at H
      have c46b0 : (t169 == 0) = true := beq_iff_eq.mpr c46
      have c46b1 : (t169 != 0) = false := bne_eq_false_iff_eq.mpr c46
      clear c46
      by_cases c47 : t158 = 11000
      ·rw [if_pos c47] at H
       have c47b0 : (t158 == 11000) = true := beq_iff_eq.mpr c47
       have c47b1 : (t158 != 11000) = false := bne_eq_false_iff_eq.mpr c47
       clear c47
       by_cases c48 : t160 = 4000
       ·rw [if_pos c48] at H
        have c48b0 : (t160 == 4000) = true := beq_iff_eq.mpr c48
        have c48b1 : (t160 != 4000) = false := bne_eq_false_iff_eq.mpr c48
        clear c48
        by_cases c49 : t168 = 13000
        ·rw [if_pos c49] at H
         have c49b0 : (t168 == 13000) = true := beq_iff_eq.mpr c49
         have c49b1 : (t168 != 13000) = false := bne_eq_false_iff_eq.mpr c49
         clear c49
         by_cases c50 : t179 = 13000
         ·rw [if_pos c50] at H
          have c50b0 : (t179 == 13000) = true := beq_iff_eq.mpr c50
          have c50b1 : (t179 != 13000) = false := bne_eq_false_iff_eq.mpr c50
          clear c50
          by_cases c51 : t180 = true
          ·subst c51
           have H1 : (if t196 = 0 then (skiarealaw24_alive.j0 k t155 t165 t197 t145 t148 y162) else (skiarealaw24_alive.j0 k t155 t165 true t145 t148 y162)) = some r := by rw [if_pos rfl] at H; exact H
           clear H
           have H := H1
           clear H1
           by_cases c52 : t196 = 0
           ·rw [if_pos c52] at H
            have c52b0 : (t196 == 0) = true := beq_iff_eq.mpr c52
            have c52b1 : (t196 != 0) = false := bne_eq_false_iff_eq.mpr c52
            clear c52
            have H' := Aside0.mk H
            clear H
            go_wp2
            go_meet
            case rel => exact ⟨_, (t197), (by first | rfl | (simp; done) | (simp [*]; done)), H', ⟨by first | omega | exact Nat.le_refl _⟩, ⟨by (with_reducible repeat (first | apply Kd.N_alloc | apply Kd.N_drewN | apply Kd.N_drew)); exact Kd.N_mono HO157.out (fun _ hk => ⟨hk.1.1.1.1.1.1.1.1.2, ⟨hk.1.1.1.1.1.1.1.1.1.1, ⟨hk.1.1.1.1.1.1.1.1.1.2.1, ⟨hk.1.1.1.1.1.1.1.1.1.2.2.1, hk.1.1.1.1.1.1.1.1.1.2.2.2⟩⟩⟩⟩)⟩, ⟨by (with_reducible repeat (first | apply Kd.N_alloc | apply Kd.N_drewN | apply Kd.N_drew)); exact Kd.N_mono HO167.out (fun _ hk => ⟨hk.1.1.1.1.1.1.1.1.2.2.2.1, ⟨hk.1.1.1.1.1.1.1.1.1, ⟨hk.1.1.1.1.1.1.1.1.2.1, ⟨hk.1.1.1.1.1.1.1.1.2.2.1, hk.1.1.1.1.1.1.1.1.2.2.2.2⟩⟩⟩⟩)⟩, ⟨by (with_reducible repeat (first | apply Kd.R_alloc | apply Kd.R_drewN | apply Kd.R_drew)); exact Kd.R_mono HO147.out (fun _ hk => hk.1.1.1.1.1)⟩, ⟨by (with_reducible repeat (first | apply Kd.R_alloc | apply Kd.R_drewN | apply Kd.R_drew)); exact Kd.R_mono HO150.out (fun _ hk => hk.1.1.1.1.1)⟩, ⟨by (with_reducible repeat (first | apply Kd.Q_alloc | apply Kd.Q_drewN | apply Kd.Q_drew)); exact Kd.Q_mono HO164.out (fun _ hk => trivial)⟩, ⟨by (with_reducible repeat (first | refine blk_drewN ?_ _ | refine blk_drew ?_ | refine blk_alloc ?_ _)); exact BK154.out⟩, ⟨by repeat (first | (with_reducible first | exact HB.out | apply below_alloc | apply pw_below_drewN | apply below_drew1 | refine below_set ?_ GE154.out) | exact HB.out)⟩⟩
           ·rw [if_neg c52] at H
            have c52b0 : (t196 == 0) = false := beq_eq_false_iff_ne.mpr c52
            have c52b1 : (t196 != 0) = true := bne_iff_ne.mpr c52
            have H' := Aside0.mk H
            clear H
            go_wp2
            go_meet
            case rel => exact ⟨_, (true), (by first | rfl | (simp; done) | (simp [*]; done)), H', ⟨by first | omega | exact Nat.le_refl _⟩, ⟨by (with_reducible repeat (first | apply Kd.N_alloc | apply Kd.N_drewN | apply Kd.N_drew)); exact Kd.N_mono HO157.out (fun _ hk => ⟨hk.1.1.1.1.1.1.1.1.2, ⟨hk.1.1.1.1.1.1.1.1.1.1, ⟨hk.1.1.1.1.1.1.1.1.1.2.1, ⟨hk.1.1.1.1.1.1.1.1.1.2.2.1, hk.1.1.1.1.1.1.1.1.1.2.2.2⟩⟩⟩⟩)⟩, ⟨by (with_reducible repeat (first | apply Kd.N_alloc | apply Kd.N_drewN | apply Kd.N_drew)); exact Kd.N_mono HO167.out (fun _ hk => ⟨hk.1.1.1.1.1.1.1.1.2.2.2.1, ⟨hk.1.1.1.1.1.1.1.1.1, ⟨hk.1.1.1.1.1.1.1.1.2.1, ⟨hk.1.1.1.1.1.1.1.1.2.2.1, hk.1.1.1.1.1.1.1.1.2.2.2.2⟩⟩⟩⟩)⟩, ⟨by (with_reducible repeat (first | apply Kd.R_alloc | apply Kd.R_drewN | apply Kd.R_drew)); exact Kd.R_mono HO147.out (fun _ hk => hk.1.1.1.1.1)⟩, ⟨by (with_reducible repeat (first | apply Kd.R_alloc | apply Kd.R_drewN | apply Kd.R_drew)); exact Kd.R_mono HO150.out (fun _ hk => hk.1.1.1.1.1)⟩, ⟨by (with_reducible repeat (first | apply Kd.Q_alloc | apply Kd.Q_drewN | apply Kd.Q_drew)); exact Kd.Q_mono HO164.out (fun _ hk => trivial)⟩, ⟨by (with_reducible repeat (first | refine blk_drewN ?_ _ | refine blk_drew ?_ | refine blk_alloc ?_ _)); exact BK154.out⟩, ⟨by repeat (first | (with_reducible first | exact HB.out | apply below_alloc | apply pw_below_drewN | apply below_drew1 | refine below_set ?_ GE154.out) | exact HB.out)⟩⟩
          ·replace c51 := Bool.eq_false_iff.mpr c51
           subst c51
           have H1 : (skiarealaw24_alive.j0 k t155 t165 true t145 t148 y162) = some r := by rw [if_neg (show ¬ (false = true) by decide)] at H; exact H
           clear H
           have H := H1
           clear H1
           have H' := Aside0.mk H
           clear H
           go_wp2
           go_meet
           case rel => exact ⟨_, (true), (by first | rfl | (simp; done) | (simp [*]; done)), H', ⟨by first | omega | exact Nat.le_refl _⟩, ⟨by (with_reducible repeat (first | apply Kd.N_alloc | apply Kd.N_drewN | apply Kd.N_drew)); exact Kd.N_mono HO157.out (fun _ hk => ⟨hk.1.1.1.1.1.1.1.1.2, ⟨hk.1.1.1.1.1.1.1.1.1.1, ⟨hk.1.1.1.1.1.1.1.1.1.2.1, ⟨hk.1.1.1.1.1.1.1.1.1.2.2.1, hk.1.1.1.1.1.1.1.1.1.2.2.2⟩⟩⟩⟩)⟩, ⟨by (with_reducible repeat (first | apply Kd.N_alloc | apply Kd.N_drewN | apply Kd.N_drew)); exact Kd.N_mono HO167.out (fun _ hk => ⟨hk.1.1.1.1.1.1.1.1.2.2.2.1, ⟨hk.1.1.1.1.1.1.1.1.1, ⟨hk.1.1.1.1.1.1.1.1.2.1, ⟨hk.1.1.1.1.1.1.1.1.2.2.1, hk.1.1.1.1.1.1.1.1.2.2.2.2⟩⟩⟩⟩)⟩, ⟨by (with_reducible repeat (first | apply Kd.R_alloc | apply Kd.R_drewN | apply Kd.R_drew)); exact Kd.R_mono HO147.out (fun _ hk => hk.1.1.1.1.1)⟩, ⟨by (with_reducible repeat (first | apply Kd.R_alloc | apply Kd.R_drewN | apply Kd.R_drew)); exact Kd.R_mono HO150.out (fun _ hk => hk.1.1.1.1.1)⟩, ⟨by (with_reducible repeat (first | apply Kd.Q_alloc | apply Kd.Q_drewN | apply Kd.Q_drew)); exact Kd.Q_mono HO164.out (fun _ hk => trivial)⟩, ⟨by (with_reducible repeat (first | refine blk_drewN ?_ _ | refine blk_drew ?_ | refine blk_alloc ?_ _)); exact BK154.out⟩, ⟨by repeat (first | (with_reducible first | exact HB.out | apply below_alloc | apply pw_below_drewN | apply below_drew1 | refine below_set ?_ GE154.out) | exact HB.out)⟩⟩
         ·rw [if_neg c50] at H
          have c50b0 : (t179 == 13000) = false := beq_eq_false_iff_ne.mpr c50
          have c50b1 : (t179 != 13000) = true := bne_iff_ne.mpr c50
          have H' := Aside0.mk H
          clear H
          go_wp2
          go_meet
          case rel => exact ⟨_, (true), (by first | rfl | (simp; done) | (simp [*]; done)), H', ⟨by first | omega | exact Nat.le_refl _⟩, ⟨by (with_reducible repeat (first | apply Kd.N_alloc | apply Kd.N_drewN | apply Kd.N_drew)); exact Kd.N_mono HO157.out (fun _ hk => ⟨hk.1.1.1.1.1.1.1.1.2, ⟨hk.1.1.1.1.1.1.1.1.1.1, ⟨hk.1.1.1.1.1.1.1.1.1.2.1, ⟨hk.1.1.1.1.1.1.1.1.1.2.2.1, hk.1.1.1.1.1.1.1.1.1.2.2.2⟩⟩⟩⟩)⟩, ⟨by (with_reducible repeat (first | apply Kd.N_alloc | apply Kd.N_drewN | apply Kd.N_drew)); exact Kd.N_mono HO167.out (fun _ hk => ⟨hk.1.1.1.1.1.1.1.1.2.2.2.1, ⟨hk.1.1.1.1.1.1.1.1.1, ⟨hk.1.1.1.1.1.1.1.1.2.1, ⟨hk.1.1.1.1.1.1.1.1.2.2.1, hk.1.1.1.1.1.1.1.1.2.2.2.2⟩⟩⟩⟩)⟩, ⟨by (with_reducible repeat (first | apply Kd.R_alloc | apply Kd.R_drewN | apply Kd.R_drew)); exact Kd.R_mono HO147.out (fun _ hk => hk.1.1.1.1.1)⟩, ⟨by (with_reducible repeat (first | apply Kd.R_alloc | apply Kd.R_drewN | apply Kd.R_drew)); exact Kd.R_mono HO150.out (fun _ hk => hk.1.1.1.1.1)⟩, ⟨by (with_reducible repeat (first | apply Kd.Q_alloc | apply Kd.Q_drewN | apply Kd.Q_drew)); exact Kd.Q_mono HO164.out (fun _ hk => trivial)⟩, ⟨by (with_reducible repeat (first | refine blk_drewN ?_ _ | refine blk_drew ?_ | refine blk_alloc ?_ _)); exact BK154.out⟩, ⟨by repeat (first | (with_reducible first | exact HB.out | apply below_alloc | apply pw_below_drewN | apply below_drew1 | refine below_set ?_ GE154.out) | exact HB.out)⟩⟩
        ·rw [if_neg c49] at H
         have c49b0 : (t168 == 13000) = false := beq_eq_false_iff_ne.mpr c49
         have c49b1 : (t168 != 13000) = true := bne_iff_ne.mpr c49
         have H' := Aside0.mk H
         clear H
         go_wp2
         go_meet
         case rel => exact ⟨_, (true), (by first | rfl | (simp; done) | (simp [*]; done)), H', ⟨by first | omega | exact Nat.le_refl _⟩, ⟨by (with_reducible repeat (first | apply Kd.N_alloc | apply Kd.N_drewN | apply Kd.N_drew)); exact Kd.N_mono HO157.out (fun _ hk => ⟨hk.1.1.1.1.1.1.1.1.2, ⟨hk.1.1.1.1.1.1.1.1.1.1, ⟨hk.1.1.1.1.1.1.1.1.1.2.1, ⟨hk.1.1.1.1.1.1.1.1.1.2.2.1, hk.1.1.1.1.1.1.1.1.1.2.2.2⟩⟩⟩⟩)⟩, ⟨by (with_reducible repeat (first | apply Kd.N_alloc | apply Kd.N_drewN | apply Kd.N_drew)); exact Kd.N_mono HO167.out (fun _ hk => ⟨hk.1.1.1.1.1.1.1.1.2.2.2.1, ⟨hk.1.1.1.1.1.1.1.1.1, ⟨hk.1.1.1.1.1.1.1.1.2.1, ⟨hk.1.1.1.1.1.1.1.1.2.2.1, hk.1.1.1.1.1.1.1.1.2.2.2.2⟩⟩⟩⟩)⟩, ⟨by (with_reducible repeat (first | apply Kd.R_alloc | apply Kd.R_drewN | apply Kd.R_drew)); exact Kd.R_mono HO147.out (fun _ hk => hk.1.1.1.1.1)⟩, ⟨by (with_reducible repeat (first | apply Kd.R_alloc | apply Kd.R_drewN | apply Kd.R_drew)); exact Kd.R_mono HO150.out (fun _ hk => hk.1.1.1.1.1)⟩, ⟨by (with_reducible repeat (first | apply Kd.Q_alloc | apply Kd.Q_drewN | apply Kd.Q_drew)); exact Kd.Q_mono HO164.out (fun _ hk => trivial)⟩, ⟨by (with_reducible repeat (first | refine blk_drewN ?_ _ | refine blk_drew ?_ | refine blk_alloc ?_ _)); exact BK154.out⟩, ⟨by repeat (first | (with_reducible first | exact HB.out | apply below_alloc | apply pw_below_drewN | apply below_drew1 | refine below_set ?_ GE154.out) | exact HB.out)⟩⟩
       ·rw [if_neg c48] at H
        have c48b0 : (t160 == 4000) = false := beq_eq_false_iff_ne.mpr c48
        have c48b1 : (t160 != 4000) = true := bne_iff_ne.mpr c48
        have H' := Aside0.mk H
        clear H
        go_wp2
        go_meet
        case rel => exact ⟨_, (true), (by first | rfl | (simp; done) | (simp [*]; done)), H', ⟨by first | omega | exact Nat.le_refl _⟩, ⟨by (with_reducible repeat (first | apply Kd.N_alloc | apply Kd.N_drewN | apply Kd.N_drew)); exact Kd.N_mono HO157.out (fun _ hk => ⟨hk.1.1.1.1.1.1.1.1.2, ⟨hk.1.1.1.1.1.1.1.1.1.1, ⟨hk.1.1.1.1.1.1.1.1.1.2.1, ⟨hk.1.1.1.1.1.1.1.1.1.2.2.1, hk.1.1.1.1.1.1.1.1.1.2.2.2⟩⟩⟩⟩)⟩, ⟨by (with_reducible repeat (first | apply Kd.N_alloc | apply Kd.N_drewN | apply Kd.N_drew)); exact Kd.N_mono HO167.out (fun _ hk => ⟨hk.1.1.1.1.1.1.1.1.2.2.2.1, ⟨hk.1.1.1.1.1.1.1.1.1, ⟨hk.1.1.1.1.1.1.1.1.2.1, ⟨hk.1.1.1.1.1.1.1.1.2.2.1, hk.1.1.1.1.1.1.1.1.2.2.2.2⟩⟩⟩⟩)⟩, ⟨by (with_reducible repeat (first | apply Kd.R_alloc | apply Kd.R_drewN | apply Kd.R_drew)); exact Kd.R_mono HO147.out (fun _ hk => hk.1.1.1.1.1)⟩, ⟨by (with_reducible repeat (first | apply Kd.R_alloc | apply Kd.R_drewN | apply Kd.R_drew)); exact Kd.R_mono HO150.out (fun _ hk => hk.1.1.1.1.1)⟩, ⟨by (with_reducible repeat (first | apply Kd.Q_alloc | apply Kd.Q_drewN | apply Kd.Q_drew)); exact Kd.Q_mono HO164.out (fun _ hk => trivial)⟩, ⟨by (with_reducible repeat (first | refine blk_drewN ?_ _ | refine blk_drew ?_ | refine blk_alloc ?_ _)); exact BK154.out⟩, ⟨by repeat (first | (with_reducible first | exact HB.out | apply below_alloc | apply pw_below_drewN | apply below_drew1 | refine below_set ?_ GE154.out) | exact HB.out)⟩⟩
      ·rw [if_neg c47] at H
       have c47b0 : (t158 == 11000) = false := beq_eq_false_iff_ne.mpr c47
       have c47b1 : (t158 != 11000) = true := bne_iff_ne.mpr c47
       have H' := Aside0.mk H
       clear H
       go_wp2
       go_meet
       case rel => exact ⟨_, (true), (by first | rfl | (simp; done) | (simp [*]; done)), H', ⟨by first | omega | exact Nat.le_refl _⟩, ⟨by (with_reducible repeat (first | apply Kd.N_alloc | apply Kd.N_drewN | apply Kd.N_drew)); exact Kd.N_mono HO157.out (fun _ hk => ⟨hk.1.1.1.1.1.1.1.1.2, ⟨hk.1.1.1.1.1.1.1.1.1.1, ⟨hk.1.1.1.1.1.1.1.1.1.2.1, ⟨hk.1.1.1.1.1.1.1.1.1.2.2.1, hk.1.1.1.1.1.1.1.1.1.2.2.2⟩⟩⟩⟩)⟩, ⟨by (with_reducible repeat (first | apply Kd.N_alloc | apply Kd.N_drewN | apply Kd.N_drew)); exact Kd.N_mono HO167.out (fun _ hk => ⟨hk.1.1.1.1.1.1.1.1.2.2.2.1, ⟨hk.1.1.1.1.1.1.1.1.1, ⟨hk.1.1.1.1.1.1.1.1.2.1, ⟨hk.1.1.1.1.1.1.1.1.2.2.1, hk.1.1.1.1.1.1.1.1.2.2.2.2⟩⟩⟩⟩)⟩, ⟨by (with_reducible repeat (first | apply Kd.R_alloc | apply Kd.R_drewN | apply Kd.R_drew)); exact Kd.R_mono HO147.out (fun _ hk => hk.1.1.1.1.1)⟩, ⟨by (with_reducible repeat (first | apply Kd.R_alloc | apply Kd.R_drewN | apply Kd.R_drew)); exact Kd.R_mono HO150.out (fun _ hk => hk.1.1.1.1.1)⟩, ⟨by (with_reducible repeat (first | apply Kd.Q_alloc | apply Kd.Q_drewN | apply Kd.Q_drew)); exact Kd.Q_mono HO164.out (fun _ hk => trivial)⟩, ⟨by (with_reducible repeat (first | refine blk_drewN ?_ _ | refine blk_drew ?_ | refine blk_alloc ?_ _)); exact BK154.out⟩, ⟨by repeat (first | (with_reducible first | exact HB.out | apply below_alloc | apply pw_below_drewN | apply below_drew1 | refine below_set ?_ GE154.out) | exact HB.out)⟩⟩
     ·rw [if_neg c46] at H
      have c46b0 : (t169 == 0) = false := beq_eq_false_iff_ne.mpr c46
      have c46b1 : (t169 != 0) = true := bne_iff_ne.mpr c46
      have H' := Aside0.mk H
      clear H
      go_wp2
      go_meet
      case rel => exact ⟨_, (true), (by first | rfl | (simp; done) | (simp [*]; done)), H', ⟨by first | omega | exact Nat.le_refl _⟩, ⟨by (with_reducible repeat (first | apply Kd.N_alloc | apply Kd.N_drewN | apply Kd.N_drew)); exact Kd.N_mono HO157.out (fun _ hk => ⟨hk.1.1.1.1.1.1.1.1.2, ⟨hk.1.1.1.1.1.1.1.1.1.1, ⟨hk.1.1.1.1.1.1.1.1.1.2.1, ⟨hk.1.1.1.1.1.1.1.1.1.2.2.1, hk.1.1.1.1.1.1.1.1.1.2.2.2⟩⟩⟩⟩)⟩, ⟨by (with_reducible repeat (first | apply Kd.N_alloc | apply Kd.N_drewN | apply Kd.N_drew)); exact Kd.N_mono HO167.out (fun _ hk => ⟨hk.1.1.1.1.1.1.1.1.2.2.2.1, ⟨hk.1.1.1.1.1.1.1.1.1, ⟨hk.1.1.1.1.1.1.1.1.2.1, ⟨hk.1.1.1.1.1.1.1.1.2.2.1, hk.1.1.1.1.1.1.1.1.2.2.2.2⟩⟩⟩⟩)⟩, ⟨by (with_reducible repeat (first | apply Kd.R_alloc | apply Kd.R_drewN | apply Kd.R_drew)); exact Kd.R_mono HO147.out (fun _ hk => hk.1.1.1.1.1)⟩, ⟨by (with_reducible repeat (first | apply Kd.R_alloc | apply Kd.R_drewN | apply Kd.R_drew)); exact Kd.R_mono HO150.out (fun _ hk => hk.1.1.1.1.1)⟩, ⟨by (with_reducible repeat (first | apply Kd.Q_alloc | apply Kd.Q_drewN | apply Kd.Q_drew)); exact Kd.Q_mono HO164.out (fun _ hk => trivial)⟩, ⟨by (with_reducible repeat (first | refine blk_drewN ?_ _ | refine blk_drew ?_ | refine blk_alloc ?_ _)); exact BK154.out⟩, ⟨by repeat (first | (with_reducible first | exact HB.out | apply below_alloc | apply pw_below_drewN | apply below_drew1 | refine below_set ?_ GE154.out) | exact HB.out)⟩⟩
    ·rw [if_neg c45] at H
     have c45b0 : (t161 == 0) = false := beq_eq_false_iff_ne.mpr c45
     have c45b1 : (t161 != 0) = true := bne_iff_ne.mpr c45
     have H' := Aside0.mk H
     clear H
     go_wp2
     go_meet
     case rel => exact ⟨_, (true), (by first | rfl | (simp; done) | (simp [*]; done)), H', ⟨by first | omega | exact Nat.le_refl _⟩, ⟨by (with_reducible repeat (first | apply Kd.N_alloc | apply Kd.N_drewN | apply Kd.N_drew)); exact Kd.N_mono HO157.out (fun _ hk => ⟨hk.1.1.1.1.1.1.1.1.2, ⟨hk.1.1.1.1.1.1.1.1.1.1, ⟨hk.1.1.1.1.1.1.1.1.1.2.1, ⟨hk.1.1.1.1.1.1.1.1.1.2.2.1, hk.1.1.1.1.1.1.1.1.1.2.2.2⟩⟩⟩⟩)⟩, ⟨by (with_reducible repeat (first | apply Kd.N_alloc | apply Kd.N_drewN | apply Kd.N_drew)); exact Kd.N_mono HO167.out (fun _ hk => ⟨hk.1.1.1.1.1.1.1.1.2.2.2.1, ⟨hk.1.1.1.1.1.1.1.1.1, ⟨hk.1.1.1.1.1.1.1.1.2.1, ⟨hk.1.1.1.1.1.1.1.1.2.2.1, hk.1.1.1.1.1.1.1.1.2.2.2.2⟩⟩⟩⟩)⟩, ⟨by (with_reducible repeat (first | apply Kd.R_alloc | apply Kd.R_drewN | apply Kd.R_drew)); exact Kd.R_mono HO147.out (fun _ hk => hk.1.1.1.1.1)⟩, ⟨by (with_reducible repeat (first | apply Kd.R_alloc | apply Kd.R_drewN | apply Kd.R_drew)); exact Kd.R_mono HO150.out (fun _ hk => hk.1.1.1.1.1)⟩, ⟨by (with_reducible repeat (first | apply Kd.Q_alloc | apply Kd.Q_drewN | apply Kd.Q_drew)); exact Kd.Q_mono HO164.out (fun _ hk => trivial)⟩, ⟨by (with_reducible repeat (first | refine blk_drewN ?_ _ | refine blk_drew ?_ | refine blk_alloc ?_ _)); exact BK154.out⟩, ⟨by repeat (first | (with_reducible first | exact HB.out | apply below_alloc | apply pw_below_drewN | apply below_drew1 | refine below_set ?_ GE154.out) | exact HB.out)⟩⟩
   ·rw [if_neg c44] at H
    have c44b0 : (t159 == 0) = false := beq_eq_false_iff_ne.mpr c44
    have c44b1 : (t159 != 0) = true := bne_iff_ne.mpr c44
    (first | rw [c44b0] | (simp only [i64_w, i32_w]; rw [c44b0]) | skip)
    have H' := Aside0.mk H
    clear H
    go_wp2
    go_meet
    case rel => exact ⟨_, (true), (by first | rfl | (simp; done) | (simp [*]; done)), H', ⟨by first | omega | exact Nat.le_refl _⟩, ⟨by (with_reducible repeat (first | apply Kd.N_alloc | apply Kd.N_drewN | apply Kd.N_drew)); exact Kd.N_mono HO157.out (fun _ hk => ⟨hk.1.1.1.1.1.1.1.1.2, ⟨hk.1.1.1.1.1.1.1.1.1.1, ⟨hk.1.1.1.1.1.1.1.1.1.2.1, ⟨hk.1.1.1.1.1.1.1.1.1.2.2.1, hk.1.1.1.1.1.1.1.1.1.2.2.2⟩⟩⟩⟩)⟩, ⟨by (with_reducible repeat (first | apply Kd.N_alloc | apply Kd.N_drewN | apply Kd.N_drew)); exact Kd.N_mono HO167.out (fun _ hk => ⟨hk.1.1.1.1.1.1.1.1.2.2.2.1, ⟨hk.1.1.1.1.1.1.1.1.1, ⟨hk.1.1.1.1.1.1.1.1.2.1, ⟨hk.1.1.1.1.1.1.1.1.2.2.1, hk.1.1.1.1.1.1.1.1.2.2.2.2⟩⟩⟩⟩)⟩, ⟨by (with_reducible repeat (first | apply Kd.R_alloc | apply Kd.R_drewN | apply Kd.R_drew)); exact Kd.R_mono HO147.out (fun _ hk => hk.1.1.1.1.1)⟩, ⟨by (with_reducible repeat (first | apply Kd.R_alloc | apply Kd.R_drewN | apply Kd.R_drew)); exact Kd.R_mono HO150.out (fun _ hk => hk.1.1.1.1.1)⟩, ⟨by (with_reducible repeat (first | apply Kd.Q_alloc | apply Kd.Q_drewN | apply Kd.Q_drew)); exact Kd.Q_mono HO164.out (fun _ hk => trivial)⟩, ⟨by (with_reducible repeat (first | refine blk_drewN ?_ _ | refine blk_drew ?_ | refine blk_alloc ?_ _)); exact BK154.out⟩, ⟨by repeat (first | (with_reducible first | exact HB.out | apply below_alloc | apply pw_below_drewN | apply below_drew1 | refine below_set ?_ GE154.out) | exact HB.out)⟩⟩
  case rest =>
   clear HC9
   try clear c1
   try clear c2
   try clear p2
   try clear q2
   try clear c4
   try clear c4b0
   try clear c4b1
   try clear c5
   try clear c10
   try clear c16
   try clear c18
   try clear c19
   try clear c20
   try clear q20
   try clear c23
   try clear c44
   try clear c44b0
   try clear c44b1
   try clear c45
   try clear c45b0
   try clear c45b1
   try clear c46
   try clear c46b0
   try clear c46b1
   try clear c47
   try clear c47b0
   try clear c47b1
   try clear c48
   try clear c48b0
   try clear c48b1
   try clear c49
   try clear c49b0
   try clear c49b1
   try clear c50
   try clear c50b0
   try clear c50b1
   try clear c51
   try clear c52
   try clear c52b0
   try clear c52b1
   try clear hcz13_0
   try clear hcz13_1
   try clear hcz13_2
   try clear hcz17_0
   try clear hcz17_1
   try clear hcz17_2
   try clear hcz19_0
   try clear hcz19_1
   try clear hcz19_2
   try clear hcz22_0
   try clear hcz22_1
   try clear hcz22_2
   try clear hfz13_0
   try clear hfz13_1
   try clear hfz13_2
   try clear hfz17_0
   try clear hfz17_1
   try clear hfz17_2
   try clear hfz19_0
   try clear hfz19_1
   try clear hfz19_2
   try clear hfz22_0
   try clear hfz22_1
   try clear hfz22_2
   try clear q20
   obtain ⟨kq, x95_8, rfl, HA, HJ8, HO_2, HO_7, HO_155000, HO_155001, HO_155002, BK154, HB⟩ := hcut
   cases kq with
   | zero => exact absurd HA.out (by simp [skiarealaw24_alive.j0])
   | succ kj8 =>
    have H := HA.out
    clear HA
    simp only [skiarealaw24_alive.j0] at H
    by_cases c53 : x95_8 = true
    ·subst c53
     have H1 : (some false) = some r := by rw [if_pos rfl] at H; exact H
     clear H
     have H := H1
     clear H1
     obtain rfl := Option.some.inj H
     go_wp2
     go_ret
     exact ⟨by first | rfl | (simp [errW_none, errW_some] <;> rfl) | (simp [*, errW_none, errW_some] <;> rfl), by repeat (first | (with_reducible first | exact HB.out | apply below_alloc | apply pw_below_drewN | apply below_drew1 | refine below_set ?_ GE154.out) | exact HB.out)⟩
    ·replace c53 := Bool.eq_false_iff.mpr c53
     subst c53
     have H1 : (if (t155.length : Int) = 1 then (if 0 < (t155.length : Int) then (if ((rd_T43 t155 0).f0) = 1 then (if (((rd_T43 t155 0).f1).length : Int) = 4 then (if (t165.length : Int) = 2 then ((group_Right.f kj8 t145 t148 y162).bind fun t200 => (if t200 = 0 then ((group_Right.f kj8 t145 ([] : List Int) ([] : List (S45))).bind fun t201 => (some (t201 == 3))) else (some false))) else (some false)) else (some false)) else (some false)) else (none)) else (some false)) = some r := by rw [if_neg (show ¬ (false = true) by decide)] at H; exact H
     clear H
     have H := H1
     clear H1
     by_cases c54 : (t155.length : Int) = 1
     ·rw [if_pos c54] at H
      have c54b0 : ((t155.length : Int) == 1) = true := beq_iff_eq.mpr c54
      have c54b1 : ((t155.length : Int) != 1) = false := bne_eq_false_iff_eq.mpr c54
      clear c54
      by_cases c55 : 0 < (t155.length : Int)
      ·rw [if_pos c55] at H
       have c55b0 : decide (0 < (t155.length : Int)) = true := decide_eq_true c55
       have c55b1 : decide (0 < t155.length) = true := decide_eq_true (by omega)
       clear c55
       by_cases c56 : ((rd_T43 t155 0).f0) = 1
       ·rw [if_pos c56] at H
        have c56b0 : (((rd_T43 t155 0).f0) == 1) = true := beq_iff_eq.mpr c56
        have c56b1 : (((rd_T43 t155 0).f0) != 1) = false := bne_eq_false_iff_eq.mpr c56
        clear c56
        by_cases c57 : (((rd_T43 t155 0).f1).length : Int) = 4
        ·rw [if_pos c57] at H
         have c57b0 : ((((rd_T43 t155 0).f1).length : Int) == 4) = true := beq_iff_eq.mpr c57
         have c57b1 : ((((rd_T43 t155 0).f1).length : Int) != 4) = false := bne_eq_false_iff_eq.mpr c57
         clear c57
         by_cases c58 : (t165.length : Int) = 2
         ·rw [if_pos c58] at H
          have c58b0 : ((t165.length : Int) == 2) = true := beq_iff_eq.mpr c58
          have c58b1 : ((t165.length : Int) != 2) = false := bne_eq_false_iff_eq.mpr c58
          clear c58
          replace H := Option.bind_eq_some_iff.mp H
          obtain ⟨t200, A590, H⟩ := H
          replace H : (if t200 = 0 then ((group_Right.f kj8 t145 ([] : List Int) ([] : List (S45))).bind fun t201 => (some (t201 == 3))) else (some false)) = some r := H
          have A59 := Aside0.mk A590
          clear A590
          by_cases c60 : t200 = 0
          ·rw [if_pos c60] at H
           have c60b0 : (t200 == 0) = true := beq_iff_eq.mpr c60
           have c60b1 : (t200 != 0) = false := bne_eq_false_iff_eq.mpr c60
           clear c60
           replace H := Option.bind_eq_some_iff.mp H
           obtain ⟨t201, A610, H⟩ := H
           replace H : (some (t201 == 3)) = some r := H
           have A61 := Aside0.mk A610
           clear A610
           obtain rfl := Option.some.inj H
           obtain ⟨Ao62, co62, eo62⟩ := Kd.N_slice HO_2.out
           subst eo62
           have p198 : 0 ≤ (0 : Int) := (by omega)
           have q198 : 0 < (t155.length : Int) := of_decide_eq_true (by first | (with_reducible assumption) | assumption)
           obtain ⟨ad198, A198_1, c198_1, e198, hx198_0, hx198_1, hl198_1, hi198_1⟩ := at_T43 (Kd.N_reads' HO_2.out).2.2 0 p198 q198
           cases e198
           obtain ⟨ce198, hce198, hMe198, hcc198⟩ := Kd.N_get HO_2.out z43 0 p198 (by first | exact q198 | exact of_decide_eq_true (by first | (with_reducible assumption) | assumption) | (have e_ := (Kd.N_reads' HO_2.out).1; omega))
           obtain ⟨ua198_1, uc198_1, rfl, ul198_1, ge198_1⟩ := k43_openF hMe198
           have hv198_1 := hcc198 1 _ rfl
           rw [add_field _ _ 1 (by omega)] at hv198_1
           replace hv198_1 := Option.some.inj (hv198_1.symm.trans hx198_1)
           injection hv198_1 with hva_ hvn_ hvc_
           rw [hva_] at ge198_1
           rw [hvc_] at ul198_1
           have HL198_1 := Aside0.mk (show Kd.V (Kd.int .i64) 3 _ w.heap.size _ _ ((rd_T43 t155 0).f1) from Kd.V_mk ul198_1 ge198_1)
           clear hva_ hvn_ hvc_ ge198_1 ul198_1
           clear hcc198 hce198
           have qi198 : (0 < t155.length) = True := eq_true (by omega)
           (try rw [show ((0 : Int)).toNat = 0 from rfl] at hx198_0)
           (try rw [show 0 * 2 = 0 from rfl] at hx198_0)
           (try rw [Addr.add_zero'] at hx198_0)
           (try rw [show ((0 : Int)).toNat = 0 from rfl] at hx198_1)
           (try rw [show 0 * 2 = 0 from rfl] at hx198_1)
           (try rw [Addr.add_zero'] at hx198_1)
           have HR198_1 := Aside0.mk hi198_1
           have HC198_1 := Aside0.mk hl198_1
           clear hi198_1 hl198_1
           replace p198 := eq_true p198
           replace q198 := eq_true q198
           have p199 : 0 ≤ (0 : Int) := (by omega)
           have q199 : 0 < (t155.length : Int) := of_decide_eq_true (by first | (with_reducible assumption) | assumption)
           obtain ⟨ad199, A199_1, c199_1, e199, hx199_0, hx199_1, hl199_1, hi199_1⟩ := at_T43 (Kd.N_reads' HO_2.out).2.2 0 p199 q199
           obtain rfl : ad198 = ad199 := (by injection e199)
           obtain ⟨ce199, hce199, hMe199, hcc199⟩ := Kd.N_get HO_2.out z43 0 p199 (by first | exact q199 | exact of_decide_eq_true (by first | (with_reducible assumption) | assumption) | (have e_ := (Kd.N_reads' HO_2.out).1; omega))
           obtain ⟨ua199_1, uc199_1, rfl, ul199_1, ge199_1⟩ := k43_openF hMe199
           have hv199_1 := hcc199 1 _ rfl
           rw [add_field _ _ 1 (by omega)] at hv199_1
           replace hv199_1 := Option.some.inj (hv199_1.symm.trans hx199_1)
           injection hv199_1 with hva_ hvn_ hvc_
           rw [hva_] at ge199_1
           rw [hvc_] at ul199_1
           have HL199_1 := Aside0.mk (show Kd.V (Kd.int .i64) 3 _ w.heap.size _ _ ((rd_T43 t155 0).f1) from Kd.V_mk ul199_1 ge199_1)
           clear hva_ hvn_ hvc_ ge199_1 ul199_1
           clear hcc199 hce199
           have qi199 : (0 < t155.length) = True := eq_true (by omega)
           (try rw [show ((0 : Int)).toNat = 0 from rfl] at hx199_0)
           (try rw [show 0 * 2 = 0 from rfl] at hx199_0)
           (try rw [Addr.add_zero'] at hx199_0)
           (try rw [show ((0 : Int)).toNat = 0 from rfl] at hx199_1)
           (try rw [show 0 * 2 = 0 from rfl] at hx199_1)
           (try rw [Addr.add_zero'] at hx199_1)
           have HR199_1 := Aside0.mk hi199_1
           have HC199_1 := Aside0.mk hl199_1
           clear hi199_1 hl199_1
           replace p199 := eq_true p199
           replace q199 := eq_true q199
           have ea_ := Option.some.inj (hx198_1.symm.trans hx199_1)
           injection ea_ with ea_ en_ ec_
           subst ea_
           subst ec_
           clear en_
           obtain ⟨Ao63, co63, eo63⟩ := Kd.N_slice HO_7.out
           subst eo63
           have hcz64_0 : wc.cell? ⟨gb154, 0, none⟩ = some (.slice Ao12 t145.length co12) := (blk_cell BK154.out 0).trans rfl
           have hcz64_1 : wc.cell? ⟨gb154, 1, none⟩ = some (.slice Ao14 t148.length co14) := (blk_cell BK154.out 1).trans rfl
           have hcz64_2 : wc.cell? ⟨gb154, 2, none⟩ = some (.slice A20 y162.length c20) := (blk_cell BK154.out 2).trans rfl
           have hfz64_0 := blk_frozen BK154.out 0
           have hfz64_1 := blk_frozen BK154.out 1
           have hfz64_2 := blk_frozen BK154.out 2
           go_wp2_with (first | (go_at_call 12; (with_reducible refine (group_Right.calls kj8 _ _ t145 _ _ t148 _ _ y162 t200 _ ?side1 ?side2 ?side3 ?side4 ?side5 ?side6 A59.out).mono ?_); (case side1 => repeat (first | exact (Kd.R_reads' HO_155000.out).2.2 | (with_reducible refine Kd.C_alloc ?_ _) | (with_reducible refine Kd.C_drewN ?_ _) | (with_reducible refine Kd.C_drew ?_))); (case side2 => exact (Kd.R_reads' HO_155000.out).2.1); (case side3 => repeat (first | exact (Kd.R_reads' HO_155001.out).2.2 | (with_reducible refine Kd.C_alloc ?_ _) | (with_reducible refine Kd.C_drewN ?_ _) | (with_reducible refine Kd.C_drew ?_))); (case side4 => exact (Kd.R_reads' HO_155001.out).2.1); (case side5 => repeat (first | exact (Kd.Q_reads' HO_155002.out).2.2 | (with_reducible refine Kd.C_alloc ?_ _) | (with_reducible refine Kd.C_drewN ?_ _) | (with_reducible refine Kd.C_drew ?_))); (case side6 => exact (Kd.Q_reads' HO_155002.out).2.1); rintro e w65 ⟨rfl, hb⟩; have n0_ := Aside0.mk (Kd.N_below (by (with_reducible repeat (first | apply Kd.N_alloc | apply Kd.N_drewN | apply Kd.N_drew)); exact HO_2.out) hb); have n1_ := Aside0.mk (Kd.N_below (by (with_reducible repeat (first | apply Kd.N_alloc | apply Kd.N_drewN | apply Kd.N_drew)); exact HO_7.out) hb); have n2_ := Aside0.mk (Kd.R_below (by (with_reducible repeat (first | apply Kd.R_alloc | apply Kd.R_drewN | apply Kd.R_drew)); exact HO_155000.out) hb); have n3_ := Aside0.mk (Kd.R_below (by (with_reducible repeat (first | apply Kd.R_alloc | apply Kd.R_drewN | apply Kd.R_drew)); exact HO_155001.out) hb); have n4_ := Aside0.mk (Kd.Q_below (by (with_reducible repeat (first | apply Kd.Q_alloc | apply Kd.Q_drewN | apply Kd.Q_drew)); exact HO_155002.out) hb); have n5_ := Aside0.mk (Kd.V_below (by (with_reducible repeat (first | apply Kd.V_alloc | apply Kd.V_drewN | apply Kd.V_drew)); exact HL198_1.out) hb); have n6_ := Aside0.mk (Kd.V_below (by (with_reducible repeat (first | apply Kd.V_alloc | apply Kd.V_drewN | apply Kd.V_drew)); exact HL199_1.out) hb); have n7_ := Aside0.mk (blk_below (g := gb154) (o := .cells #[.slice Ao12 t145.length co12, .slice Ao14 t148.length co14, .slice A20 y162.length c20] 25 (0, 0)) (by (with_reducible repeat (first | refine blk_drewN ?_ _ | refine blk_drew ?_ | refine blk_alloc ?_ _)); exact BK154.out) hb); have n8_ := Aside0.mk (Kd.C_below (by repeat (first | (with_reducible exact HR198_1.out) | (with_reducible refine Kd.C_alloc ?_ _) | (with_reducible refine Kd.C_drewN ?_ _) | (with_reducible refine Kd.C_drew ?_) | exact HR198_1.out)) hb); have n9_ := Aside0.mk (Kd.C_below (by repeat (first | (with_reducible exact HR199_1.out) | (with_reducible refine Kd.C_alloc ?_ _) | (with_reducible refine Kd.C_drewN ?_ _) | (with_reducible refine Kd.C_drew ?_) | exact HR199_1.out)) hb); have n10_ := Aside0.mk (below_step (by repeat (first | (with_reducible first | exact HB.out | apply below_alloc | apply pw_below_drewN | apply below_drew1 | refine below_set ?_ GE154.out) | exact HB.out)) hb); clear HO_2; clear HO_7; clear HO_155000; clear HO_155001; clear HO_155002; clear HL198_1; clear HL199_1; clear BK154; clear HR198_1; clear HR199_1; clear HB; have HO_2 := n0_; have HO_7 := n1_; have HO_155000 := n2_; have HO_155001 := n3_; have HO_155002 := n4_; have HL198_1 := n5_; have HL199_1 := n6_; have BK154 := n7_; have HR198_1 := n8_; have HR199_1 := n9_; have HB := n10_; clear n0_ n1_ n2_ n3_ n4_ n5_ n6_ n7_ n8_ n9_ n10_; (try clear hb); (try clear hb2); (try clear hk); (try clear hi); have hcz66_0 : w65.cell? ⟨gb154, 0, none⟩ = some (.slice Ao12 t145.length co12) := (blk_cell BK154.out 0).trans rfl; have hcz66_1 : w65.cell? ⟨gb154, 1, none⟩ = some (.slice Ao14 t148.length co14) := (blk_cell BK154.out 1).trans rfl; have hcz66_2 : w65.cell? ⟨gb154, 2, none⟩ = some (.slice A20 y162.length c20) := (blk_cell BK154.out 2).trans rfl; have hfz66_0 := blk_frozen BK154.out 0; have hfz66_1 := blk_frozen BK154.out 1; have hfz66_2 := blk_frozen BK154.out 2) | (go_at_call 12; (refine (group_Right.calls kj8 _ _ t145 _ _ ([] : List Int) _ _ ([] : List (S45)) t201 _ ?side1 ?side2 ?side3 ?side4 ?side5 ?side6 A61.out).mono ?_); (case side1 => repeat (first | exact (Kd.R_reads' HO_155000.out).2.2 | (with_reducible refine Kd.C_alloc ?_ _) | (with_reducible refine Kd.C_drewN ?_ _) | (with_reducible refine Kd.C_drew ?_))); (case side2 => exact (Kd.R_reads' HO_155000.out).2.1); (case side3 => exact Kd.C_nil _ _); (case side4 => exact Nat.le_refl _); (case side5 => exact Kd.C_nil _ _); (case side6 => exact Nat.le_refl _); rintro e w67 ⟨rfl, hb⟩; have n0_ := Aside0.mk (Kd.N_below (by (with_reducible repeat (first | apply Kd.N_alloc | apply Kd.N_drewN | apply Kd.N_drew)); exact HO_2.out) hb); have n1_ := Aside0.mk (Kd.N_below (by (with_reducible repeat (first | apply Kd.N_alloc | apply Kd.N_drewN | apply Kd.N_drew)); exact HO_7.out) hb); have n2_ := Aside0.mk (Kd.R_below (by (with_reducible repeat (first | apply Kd.R_alloc | apply Kd.R_drewN | apply Kd.R_drew)); exact HO_155000.out) hb); have n3_ := Aside0.mk (Kd.R_below (by (with_reducible repeat (first | apply Kd.R_alloc | apply Kd.R_drewN | apply Kd.R_drew)); exact HO_155001.out) hb); have n4_ := Aside0.mk (Kd.Q_below (by (with_reducible repeat (first | apply Kd.Q_alloc | apply Kd.Q_drewN | apply Kd.Q_drew)); exact HO_155002.out) hb); have n5_ := Aside0.mk (Kd.V_below (by (with_reducible repeat (first | apply Kd.V_alloc | apply Kd.V_drewN | apply Kd.V_drew)); exact HL198_1.out) hb); have n6_ := Aside0.mk (Kd.V_below (by (with_reducible repeat (first | apply Kd.V_alloc | apply Kd.V_drewN | apply Kd.V_drew)); exact HL199_1.out) hb); have n7_ := Aside0.mk (blk_below (g := gb154) (o := .cells #[.slice Ao12 t145.length co12, .slice Ao14 t148.length co14, .slice A20 y162.length c20] 25 (0, 0)) (by (with_reducible repeat (first | refine blk_drewN ?_ _ | refine blk_drew ?_ | refine blk_alloc ?_ _)); exact BK154.out) hb); have n8_ := Aside0.mk (Kd.C_below (by repeat (first | (with_reducible exact HR198_1.out) | (with_reducible refine Kd.C_alloc ?_ _) | (with_reducible refine Kd.C_drewN ?_ _) | (with_reducible refine Kd.C_drew ?_) | exact HR198_1.out)) hb); have n9_ := Aside0.mk (Kd.C_below (by repeat (first | (with_reducible exact HR199_1.out) | (with_reducible refine Kd.C_alloc ?_ _) | (with_reducible refine Kd.C_drewN ?_ _) | (with_reducible refine Kd.C_drew ?_) | exact HR199_1.out)) hb); have n10_ := Aside0.mk (below_step (by repeat (first | (with_reducible first | exact HB.out | apply below_alloc | apply pw_below_drewN | apply below_drew1 | refine below_set ?_ GE154.out) | exact HB.out)) hb); clear HO_2; clear HO_7; clear HO_155000; clear HO_155001; clear HO_155002; clear HL198_1; clear HL199_1; clear BK154; clear HR198_1; clear HR199_1; clear HB; have HO_2 := n0_; have HO_7 := n1_; have HO_155000 := n2_; have HO_155001 := n3_; have HO_155002 := n4_; have HL198_1 := n5_; have HL199_1 := n6_; have BK154 := n7_; have HR198_1 := n8_; have HR199_1 := n9_; have HB := n10_; clear n0_ n1_ n2_ n3_ n4_ n5_ n6_ n7_ n8_ n9_ n10_; (try clear hb); (try clear hb2); (try clear hk); (try clear hi)))
           go_ret
           exact ⟨by first | rfl | (simp [errW_none, errW_some] <;> rfl) | (simp [*, errW_none, errW_some] <;> rfl), by repeat (first | (with_reducible first | exact HB.out | apply below_alloc | apply pw_below_drewN | apply below_drew1 | refine below_set ?_ GE154.out) | exact HB.out)⟩
          ·rw [if_neg c60] at H
           have c60b0 : (t200 == 0) = false := beq_eq_false_iff_ne.mpr c60
           have c60b1 : (t200 != 0) = true := bne_iff_ne.mpr c60
           obtain rfl := Option.some.inj H
           obtain ⟨Ao68, co68, eo68⟩ := Kd.N_slice HO_2.out
           subst eo68
           have p198 : 0 ≤ (0 : Int) := (by omega)
           have q198 : 0 < (t155.length : Int) := of_decide_eq_true (by first | (with_reducible assumption) | assumption)
           obtain ⟨ad198, A198_1, c198_1, e198, hx198_0, hx198_1, hl198_1, hi198_1⟩ := at_T43 (Kd.N_reads' HO_2.out).2.2 0 p198 q198
           cases e198
           obtain ⟨ce198, hce198, hMe198, hcc198⟩ := Kd.N_get HO_2.out z43 0 p198 (by first | exact q198 | exact of_decide_eq_true (by first | (with_reducible assumption) | assumption) | (have e_ := (Kd.N_reads' HO_2.out).1; omega))
           obtain ⟨ua198_1, uc198_1, rfl, ul198_1, ge198_1⟩ := k43_openF hMe198
           have hv198_1 := hcc198 1 _ rfl
           rw [add_field _ _ 1 (by omega)] at hv198_1
           replace hv198_1 := Option.some.inj (hv198_1.symm.trans hx198_1)
           injection hv198_1 with hva_ hvn_ hvc_
           rw [hva_] at ge198_1
           rw [hvc_] at ul198_1
           have HL198_1 := Aside0.mk (show Kd.V (Kd.int .i64) 3 _ w.heap.size _ _ ((rd_T43 t155 0).f1) from Kd.V_mk ul198_1 ge198_1)
           clear hva_ hvn_ hvc_ ge198_1 ul198_1
           clear hcc198 hce198
           have qi198 : (0 < t155.length) = True := eq_true (by omega)
           (try rw [show ((0 : Int)).toNat = 0 from rfl] at hx198_0)
           (try rw [show 0 * 2 = 0 from rfl] at hx198_0)
           (try rw [Addr.add_zero'] at hx198_0)
           (try rw [show ((0 : Int)).toNat = 0 from rfl] at hx198_1)
           (try rw [show 0 * 2 = 0 from rfl] at hx198_1)
           (try rw [Addr.add_zero'] at hx198_1)
           have HR198_1 := Aside0.mk hi198_1
           have HC198_1 := Aside0.mk hl198_1
           clear hi198_1 hl198_1
           replace p198 := eq_true p198
           replace q198 := eq_true q198
           have p199 : 0 ≤ (0 : Int) := (by omega)
           have q199 : 0 < (t155.length : Int) := of_decide_eq_true (by first | (with_reducible assumption) | assumption)
           obtain ⟨ad199, A199_1, c199_1, e199, hx199_0, hx199_1, hl199_1, hi199_1⟩ := at_T43 (Kd.N_reads' HO_2.out).2.2 0 p199 q199
           obtain rfl : ad198 = ad199 := (by injection e199)
           obtain ⟨ce199, hce199, hMe199, hcc199⟩ := Kd.N_get HO_2.out z43 0 p199 (by first | exact q199 | exact of_decide_eq_true (by first | (with_reducible assumption) | assumption) | (have e_ := (Kd.N_reads' HO_2.out).1; omega))
           obtain ⟨ua199_1, uc199_1, rfl, ul199_1, ge199_1⟩ := k43_openF hMe199
           have hv199_1 := hcc199 1 _ rfl
           rw [add_field _ _ 1 (by omega)] at hv199_1
           replace hv199_1 := Option.some.inj (hv199_1.symm.trans hx199_1)
           injection hv199_1 with hva_ hvn_ hvc_
           rw [hva_] at ge199_1
           rw [hvc_] at ul199_1
           have HL199_1 := Aside0.mk (show Kd.V (Kd.int .i64) 3 _ w.heap.size _ _ ((rd_T43 t155 0).f1) from Kd.V_mk ul199_1 ge199_1)
           clear hva_ hvn_ hvc_ ge199_1 ul199_1
           clear hcc199 hce199
           have qi199 : (0 < t155.length) = True := eq_true (by omega)
           (try rw [show ((0 : Int)).toNat = 0 from rfl] at hx199_0)
           (try rw [show 0 * 2 = 0 from rfl] at hx199_0)
           (try rw [Addr.add_zero'] at hx199_0)
           (try rw [show ((0 : Int)).toNat = 0 from rfl] at hx199_1)
           (try rw [show 0 * 2 = 0 from rfl] at hx199_1)
           (try rw [Addr.add_zero'] at hx199_1)
           have HR199_1 := Aside0.mk hi199_1
           have HC199_1 := Aside0.mk hl199_1
           clear hi199_1 hl199_1
           replace p199 := eq_true p199
           replace q199 := eq_true q199
           have ea_ := Option.some.inj (hx198_1.symm.trans hx199_1)
           injection ea_ with ea_ en_ ec_
           subst ea_
           subst ec_
           clear en_
           obtain ⟨Ao69, co69, eo69⟩ := Kd.N_slice HO_7.out
           subst eo69
           have hcz70_0 : wc.cell? ⟨gb154, 0, none⟩ = some (.slice Ao12 t145.length co12) := (blk_cell BK154.out 0).trans rfl
           have hcz70_1 : wc.cell? ⟨gb154, 1, none⟩ = some (.slice Ao14 t148.length co14) := (blk_cell BK154.out 1).trans rfl
           have hcz70_2 : wc.cell? ⟨gb154, 2, none⟩ = some (.slice A20 y162.length c20) := (blk_cell BK154.out 2).trans rfl
           have hfz70_0 := blk_frozen BK154.out 0
           have hfz70_1 := blk_frozen BK154.out 1
           have hfz70_2 := blk_frozen BK154.out 2
           go_wp2_with (first | (go_at_call 12; (with_reducible refine (group_Right.calls kj8 _ _ t145 _ _ t148 _ _ y162 t200 _ ?side1 ?side2 ?side3 ?side4 ?side5 ?side6 A59.out).mono ?_); (case side1 => repeat (first | exact (Kd.R_reads' HO_155000.out).2.2 | (with_reducible refine Kd.C_alloc ?_ _) | (with_reducible refine Kd.C_drewN ?_ _) | (with_reducible refine Kd.C_drew ?_))); (case side2 => exact (Kd.R_reads' HO_155000.out).2.1); (case side3 => repeat (first | exact (Kd.R_reads' HO_155001.out).2.2 | (with_reducible refine Kd.C_alloc ?_ _) | (with_reducible refine Kd.C_drewN ?_ _) | (with_reducible refine Kd.C_drew ?_))); (case side4 => exact (Kd.R_reads' HO_155001.out).2.1); (case side5 => repeat (first | exact (Kd.Q_reads' HO_155002.out).2.2 | (with_reducible refine Kd.C_alloc ?_ _) | (with_reducible refine Kd.C_drewN ?_ _) | (with_reducible refine Kd.C_drew ?_))); (case side6 => exact (Kd.Q_reads' HO_155002.out).2.1); rintro e w71 ⟨rfl, hb⟩; have n0_ := Aside0.mk (Kd.N_below (by (with_reducible repeat (first | apply Kd.N_alloc | apply Kd.N_drewN | apply Kd.N_drew)); exact HO_2.out) hb); have n1_ := Aside0.mk (Kd.N_below (by (with_reducible repeat (first | apply Kd.N_alloc | apply Kd.N_drewN | apply Kd.N_drew)); exact HO_7.out) hb); have n2_ := Aside0.mk (Kd.R_below (by (with_reducible repeat (first | apply Kd.R_alloc | apply Kd.R_drewN | apply Kd.R_drew)); exact HO_155000.out) hb); have n3_ := Aside0.mk (Kd.R_below (by (with_reducible repeat (first | apply Kd.R_alloc | apply Kd.R_drewN | apply Kd.R_drew)); exact HO_155001.out) hb); have n4_ := Aside0.mk (Kd.Q_below (by (with_reducible repeat (first | apply Kd.Q_alloc | apply Kd.Q_drewN | apply Kd.Q_drew)); exact HO_155002.out) hb); have n5_ := Aside0.mk (Kd.V_below (by (with_reducible repeat (first | apply Kd.V_alloc | apply Kd.V_drewN | apply Kd.V_drew)); exact HL198_1.out) hb); have n6_ := Aside0.mk (Kd.V_below (by (with_reducible repeat (first | apply Kd.V_alloc | apply Kd.V_drewN | apply Kd.V_drew)); exact HL199_1.out) hb); have n7_ := Aside0.mk (blk_below (g := gb154) (o := .cells #[.slice Ao12 t145.length co12, .slice Ao14 t148.length co14, .slice A20 y162.length c20] 25 (0, 0)) (by (with_reducible repeat (first | refine blk_drewN ?_ _ | refine blk_drew ?_ | refine blk_alloc ?_ _)); exact BK154.out) hb); have n8_ := Aside0.mk (Kd.C_below (by repeat (first | (with_reducible exact HR198_1.out) | (with_reducible refine Kd.C_alloc ?_ _) | (with_reducible refine Kd.C_drewN ?_ _) | (with_reducible refine Kd.C_drew ?_) | exact HR198_1.out)) hb); have n9_ := Aside0.mk (Kd.C_below (by repeat (first | (with_reducible exact HR199_1.out) | (with_reducible refine Kd.C_alloc ?_ _) | (with_reducible refine Kd.C_drewN ?_ _) | (with_reducible refine Kd.C_drew ?_) | exact HR199_1.out)) hb); have n10_ := Aside0.mk (below_step (by repeat (first | (with_reducible first | exact HB.out | apply below_alloc | apply pw_below_drewN | apply below_drew1 | refine below_set ?_ GE154.out) | exact HB.out)) hb); clear HO_2; clear HO_7; clear HO_155000; clear HO_155001; clear HO_155002; clear HL198_1; clear HL199_1; clear BK154; clear HR198_1; clear HR199_1; clear HB; have HO_2 := n0_; have HO_7 := n1_; have HO_155000 := n2_; have HO_155001 := n3_; have HO_155002 := n4_; have HL198_1 := n5_; have HL199_1 := n6_; have BK154 := n7_; have HR198_1 := n8_; have HR199_1 := n9_; have HB := n10_; clear n0_ n1_ n2_ n3_ n4_ n5_ n6_ n7_ n8_ n9_ n10_; (try clear hb); (try clear hb2); (try clear hk); (try clear hi)))
           go_ret
           exact ⟨by first | rfl | (simp [errW_none, errW_some] <;> rfl) | (simp [*, errW_none, errW_some] <;> rfl), by repeat (first | (with_reducible first | exact HB.out | apply below_alloc | apply pw_below_drewN | apply below_drew1 | refine below_set ?_ GE154.out) | exact HB.out)⟩
         ·rw [if_neg c58] at H
          have c58b0 : ((t165.length : Int) == 2) = false := beq_eq_false_iff_ne.mpr c58
          have c58b1 : ((t165.length : Int) != 2) = true := bne_iff_ne.mpr c58
          obtain rfl := Option.some.inj H
          obtain ⟨Ao72, co72, eo72⟩ := Kd.N_slice HO_2.out
          subst eo72
          have p198 : 0 ≤ (0 : Int) := (by omega)
          have q198 : 0 < (t155.length : Int) := of_decide_eq_true (by first | (with_reducible assumption) | assumption)
          obtain ⟨ad198, A198_1, c198_1, e198, hx198_0, hx198_1, hl198_1, hi198_1⟩ := at_T43 (Kd.N_reads' HO_2.out).2.2 0 p198 q198
          cases e198
          obtain ⟨ce198, hce198, hMe198, hcc198⟩ := Kd.N_get HO_2.out z43 0 p198 (by first | exact q198 | exact of_decide_eq_true (by first | (with_reducible assumption) | assumption) | (have e_ := (Kd.N_reads' HO_2.out).1; omega))
          obtain ⟨ua198_1, uc198_1, rfl, ul198_1, ge198_1⟩ := k43_openF hMe198
          have hv198_1 := hcc198 1 _ rfl
          rw [add_field _ _ 1 (by omega)] at hv198_1
          replace hv198_1 := Option.some.inj (hv198_1.symm.trans hx198_1)
          injection hv198_1 with hva_ hvn_ hvc_
          rw [hva_] at ge198_1
          rw [hvc_] at ul198_1
          have HL198_1 := Aside0.mk (show Kd.V (Kd.int .i64) 3 _ w.heap.size _ _ ((rd_T43 t155 0).f1) from Kd.V_mk ul198_1 ge198_1)
          clear hva_ hvn_ hvc_ ge198_1 ul198_1
          clear hcc198 hce198
          have qi198 : (0 < t155.length) = True := eq_true (by omega)
          (try rw [show ((0 : Int)).toNat = 0 from rfl] at hx198_0)
          (try rw [show 0 * 2 = 0 from rfl] at hx198_0)
          (try rw [Addr.add_zero'] at hx198_0)
          (try rw [show ((0 : Int)).toNat = 0 from rfl] at hx198_1)
          (try rw [show 0 * 2 = 0 from rfl] at hx198_1)
          (try rw [Addr.add_zero'] at hx198_1)
          have HR198_1 := Aside0.mk hi198_1
          have HC198_1 := Aside0.mk hl198_1
          clear hi198_1 hl198_1
          replace p198 := eq_true p198
          replace q198 := eq_true q198
          have p199 : 0 ≤ (0 : Int) := (by omega)
          have q199 : 0 < (t155.length : Int) := of_decide_eq_true (by first | (with_reducible assumption) | assumption)
          obtain ⟨ad199, A199_1, c199_1, e199, hx199_0, hx199_1, hl199_1, hi199_1⟩ := at_T43 (Kd.N_reads' HO_2.out).2.2 0 p199 q199
          obtain rfl : ad198 = ad199 := (by injection e199)
          obtain ⟨ce199, hce199, hMe199, hcc199⟩ := Kd.N_get HO_2.out z43 0 p199 (by first | exact q199 | exact of_decide_eq_true (by first | (with_reducible assumption) | assumption) | (have e_ := (Kd.N_reads' HO_2.out).1; omega))
          obtain ⟨ua199_1, uc199_1, rfl, ul199_1, ge199_1⟩ := k43_openF hMe199
          have hv199_1 := hcc199 1 _ rfl
          rw [add_field _ _ 1 (by omega)] at hv199_1
          replace hv199_1 := Option.some.inj (hv199_1.symm.trans hx199_1)
          injection hv199_1 with hva_ hvn_ hvc_
          rw [hva_] at ge199_1
          rw [hvc_] at ul199_1
          have HL199_1 := Aside0.mk (show Kd.V (Kd.int .i64) 3 _ w.heap.size _ _ ((rd_T43 t155 0).f1) from Kd.V_mk ul199_1 ge199_1)
          clear hva_ hvn_ hvc_ ge199_1 ul199_1
          clear hcc199 hce199
          have qi199 : (0 < t155.length) = True := eq_true (by omega)
          (try rw [show ((0 : Int)).toNat = 0 from rfl] at hx199_0)
          (try rw [show 0 * 2 = 0 from rfl] at hx199_0)
          (try rw [Addr.add_zero'] at hx199_0)
          (try rw [show ((0 : Int)).toNat = 0 from rfl] at hx199_1)
          (try rw [show 0 * 2 = 0 from rfl] at hx199_1)
          (try rw [Addr.add_zero'] at hx199_1)
          have HR199_1 := Aside0.mk hi199_1
          have HC199_1 := Aside0.mk hl199_1
          clear hi199_1 hl199_1
          replace p199 := eq_true p199
          replace q199 := eq_true q199
          have ea_ := Option.some.inj (hx198_1.symm.trans hx199_1)
          injection ea_ with ea_ en_ ec_
          subst ea_
          subst ec_
          clear en_
          obtain ⟨Ao73, co73, eo73⟩ := Kd.N_slice HO_7.out
          subst eo73
          go_wp2
          go_ret
          exact ⟨by first | rfl | (simp [errW_none, errW_some] <;> rfl) | (simp [*, errW_none, errW_some] <;> rfl), by repeat (first | (with_reducible first | exact HB.out | apply below_alloc | apply pw_below_drewN | apply below_drew1 | refine below_set ?_ GE154.out) | exact HB.out)⟩
        ·rw [if_neg c57] at H
         have c57b0 : ((((rd_T43 t155 0).f1).length : Int) == 4) = false := beq_eq_false_iff_ne.mpr c57
         have c57b1 : ((((rd_T43 t155 0).f1).length : Int) != 4) = true := bne_iff_ne.mpr c57
         obtain rfl := Option.some.inj H
         obtain ⟨Ao74, co74, eo74⟩ := Kd.N_slice HO_2.out
         subst eo74
         have p198 : 0 ≤ (0 : Int) := (by omega)
         have q198 : 0 < (t155.length : Int) := of_decide_eq_true (by first | (with_reducible assumption) | assumption)
         obtain ⟨ad198, A198_1, c198_1, e198, hx198_0, hx198_1, hl198_1, hi198_1⟩ := at_T43 (Kd.N_reads' HO_2.out).2.2 0 p198 q198
         cases e198
         obtain ⟨ce198, hce198, hMe198, hcc198⟩ := Kd.N_get HO_2.out z43 0 p198 (by first | exact q198 | exact of_decide_eq_true (by first | (with_reducible assumption) | assumption) | (have e_ := (Kd.N_reads' HO_2.out).1; omega))
         obtain ⟨ua198_1, uc198_1, rfl, ul198_1, ge198_1⟩ := k43_openF hMe198
         have hv198_1 := hcc198 1 _ rfl
         rw [add_field _ _ 1 (by omega)] at hv198_1
         replace hv198_1 := Option.some.inj (hv198_1.symm.trans hx198_1)
         injection hv198_1 with hva_ hvn_ hvc_
         rw [hva_] at ge198_1
         rw [hvc_] at ul198_1
         have HL198_1 := Aside0.mk (show Kd.V (Kd.int .i64) 3 _ w.heap.size _ _ ((rd_T43 t155 0).f1) from Kd.V_mk ul198_1 ge198_1)
         clear hva_ hvn_ hvc_ ge198_1 ul198_1
         clear hcc198 hce198
         have qi198 : (0 < t155.length) = True := eq_true (by omega)
         (try rw [show ((0 : Int)).toNat = 0 from rfl] at hx198_0)
         (try rw [show 0 * 2 = 0 from rfl] at hx198_0)
         (try rw [Addr.add_zero'] at hx198_0)
         (try rw [show ((0 : Int)).toNat = 0 from rfl] at hx198_1)
         (try rw [show 0 * 2 = 0 from rfl] at hx198_1)
         (try rw [Addr.add_zero'] at hx198_1)
         have HR198_1 := Aside0.mk hi198_1
         have HC198_1 := Aside0.mk hl198_1
         clear hi198_1 hl198_1
         replace p198 := eq_true p198
         replace q198 := eq_true q198
         have p199 : 0 ≤ (0 : Int) := (by omega)
         have q199 : 0 < (t155.length : Int) := of_decide_eq_true (by first | (with_reducible assumption) | assumption)
         obtain ⟨ad199, A199_1, c199_1, e199, hx199_0, hx199_1, hl199_1, hi199_1⟩ := at_T43 (Kd.N_reads' HO_2.out).2.2 0 p199 q199
         obtain rfl : ad198 = ad199 := (by injection e199)
         obtain ⟨ce199, hce199, hMe199, hcc199⟩ := Kd.N_get HO_2.out z43 0 p199 (by first | exact q199 | exact of_decide_eq_true (by first | (with_reducible assumption) | assumption) | (have e_ := (Kd.N_reads' HO_2.out).1; omega))
         obtain ⟨ua199_1, uc199_1, rfl, ul199_1, ge199_1⟩ := k43_openF hMe199
         have hv199_1 := hcc199 1 _ rfl
         rw [add_field _ _ 1 (by omega)] at hv199_1
         replace hv199_1 := Option.some.inj (hv199_1.symm.trans hx199_1)
         injection hv199_1 with hva_ hvn_ hvc_
         rw [hva_] at ge199_1
         rw [hvc_] at ul199_1
         have HL199_1 := Aside0.mk (show Kd.V (Kd.int .i64) 3 _ w.heap.size _ _ ((rd_T43 t155 0).f1) from Kd.V_mk ul199_1 ge199_1)
         clear hva_ hvn_ hvc_ ge199_1 ul199_1
         clear hcc199 hce199
         have qi199 : (0 < t155.length) = True := eq_true (by omega)
         (try rw [show ((0 : Int)).toNat = 0 from rfl] at hx199_0)
         (try rw [show 0 * 2 = 0 from rfl] at hx199_0)
         (try rw [Addr.add_zero'] at hx199_0)
         (try rw [show ((0 : Int)).toNat = 0 from rfl] at hx199_1)
         (try rw [show 0 * 2 = 0 from rfl] at hx199_1)
         (try rw [Addr.add_zero'] at hx199_1)
         have HR199_1 := Aside0.mk hi199_1
         have HC199_1 := Aside0.mk hl199_1
         clear hi199_1 hl199_1
         replace p199 := eq_true p199
         replace q199 := eq_true q199
         have ea_ := Option.some.inj (hx198_1.symm.trans hx199_1)
         injection ea_ with ea_ en_ ec_
         subst ea_
         subst ec_
         clear en_
         go_wp2
         go_ret
         exact ⟨by first | rfl | (simp [errW_none, errW_some] <;> rfl) | (simp [*, errW_none, errW_some] <;> rfl), by repeat (first | (with_reducible first | exact HB.out | apply below_alloc | apply pw_below_drewN | apply below_drew1 | refine below_set ?_ GE154.out) | exact HB.out)⟩
       ·rw [if_neg c56] at H
        have c56b0 : (((rd_T43 t155 0).f0) == 1) = false := beq_eq_false_iff_ne.mpr c56
        have c56b1 : (((rd_T43 t155 0).f0) != 1) = true := bne_iff_ne.mpr c56
        obtain rfl := Option.some.inj H
        obtain ⟨Ao75, co75, eo75⟩ := Kd.N_slice HO_2.out
        subst eo75
        have p198 : 0 ≤ (0 : Int) := (by omega)
        have q198 : 0 < (t155.length : Int) := of_decide_eq_true (by first | (with_reducible assumption) | assumption)
        obtain ⟨ad198, A198_1, c198_1, e198, hx198_0, hx198_1, hl198_1, hi198_1⟩ := at_T43 (Kd.N_reads' HO_2.out).2.2 0 p198 q198
        cases e198
        obtain ⟨ce198, hce198, hMe198, hcc198⟩ := Kd.N_get HO_2.out z43 0 p198 (by first | exact q198 | exact of_decide_eq_true (by first | (with_reducible assumption) | assumption) | (have e_ := (Kd.N_reads' HO_2.out).1; omega))
        obtain ⟨ua198_1, uc198_1, rfl, ul198_1, ge198_1⟩ := k43_openF hMe198
        have hv198_1 := hcc198 1 _ rfl
        rw [add_field _ _ 1 (by omega)] at hv198_1
        replace hv198_1 := Option.some.inj (hv198_1.symm.trans hx198_1)
        injection hv198_1 with hva_ hvn_ hvc_
        rw [hva_] at ge198_1
        rw [hvc_] at ul198_1
        have HL198_1 := Aside0.mk (show Kd.V (Kd.int .i64) 3 _ w.heap.size _ _ ((rd_T43 t155 0).f1) from Kd.V_mk ul198_1 ge198_1)
        clear hva_ hvn_ hvc_ ge198_1 ul198_1
        clear hcc198 hce198
        have qi198 : (0 < t155.length) = True := eq_true (by omega)
        (try rw [show ((0 : Int)).toNat = 0 from rfl] at hx198_0)
        (try rw [show 0 * 2 = 0 from rfl] at hx198_0)
        (try rw [Addr.add_zero'] at hx198_0)
        (try rw [show ((0 : Int)).toNat = 0 from rfl] at hx198_1)
        (try rw [show 0 * 2 = 0 from rfl] at hx198_1)
        (try rw [Addr.add_zero'] at hx198_1)
        have HR198_1 := Aside0.mk hi198_1
        have HC198_1 := Aside0.mk hl198_1
        clear hi198_1 hl198_1
        replace p198 := eq_true p198
        replace q198 := eq_true q198
        go_wp2
        go_ret
        exact ⟨by first | rfl | (simp [errW_none, errW_some] <;> rfl) | (simp [*, errW_none, errW_some] <;> rfl), by repeat (first | (with_reducible first | exact HB.out | apply below_alloc | apply pw_below_drewN | apply below_drew1 | refine below_set ?_ GE154.out) | exact HB.out)⟩
      ·rw [if_neg c55] at H
       exact absurd H (by simp)
     ·rw [if_neg c54] at H
      have c54b0 : ((t155.length : Int) == 1) = false := beq_eq_false_iff_ne.mpr c54
      have c54b1 : ((t155.length : Int) != 1) = true := bne_iff_ne.mpr c54
      obtain rfl := Option.some.inj H
      obtain ⟨Ao76, co76, eo76⟩ := Kd.N_slice HO_2.out
      subst eo76
      go_wp2
      go_ret
      exact ⟨by first | rfl | (simp [errW_none, errW_some] <;> rfl) | (simp [*, errW_none, errW_some] <;> rfl), by repeat (first | (with_reducible first | exact HB.out | apply below_alloc | apply pw_below_drewN | apply below_drew1 | refine below_set ?_ GE154.out) | exact HB.out)⟩
 ·rw [if_neg c4] at H
  exact absurd H (by simp)

end Go.Proofs.Ytdklkjgcnibbgaa.A
