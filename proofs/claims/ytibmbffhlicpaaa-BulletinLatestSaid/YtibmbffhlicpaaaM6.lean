/- Plain laws of the bulletin chapter: what BulletinLatest gathers: the latest bulletins, and all with the others' levels changed. -/
import Derived.Test.YtibmbffhlicpaaaAx10
import Derived.Test.YtibmbffhlicpaaaM3
import Derived.Test.YtibmbffhlicpaaaM4
namespace Go.Proofs.Ytibmbffhlicpaaa.A
open Go.RowKit Go.Proofs.YtibmbffhlicpaaaW.PrintWords Go.Proofs.YtibmbffhlicpaaaW.PrintLast
set_option linter.unusedVariables false
def latTo (l : List S31) (n : Int) : Nat → List S31
  | 0 => []
  | j + 1 => if (rd_T31 l j).f0 = n then latTo l n j ++ [rd_T31 l j] else latTo l n j
def chgB (n o : Int) (b : S31) : S31 := if b.f0 = n then b else ⟨b.f0, b.f1, b.f2, b.f3, b.f4, o⟩
def chgTo (l : List S31) (n o : Int) : Nat → List S31
  | 0 => []
  | j + 1 => chgTo l n o j ++ [chgB n o (rd_T31 l j)]
/-- What holds at each round's head. -/
def L6 (l0 : List S31) (n a1_0 a1_1 a1_2 a1_3 a2 : Int) (w : World) (v8 v9 v10 v11 : Value) (wr : World) : Prop :=
  ∃ j : Nat, j ≤ l0.length ∧ v11 = .int .i64 j ∧ v10 = .int .i64 (grTo allB n a1_3 l0 j) ∧ Kd.N k31 31 wr w.heap.size (fun k => k ≠ w.heap.size ∧ some k ≠ v9.ownBlock) v8 (latTo l0 n j) ∧
    Kd.N k31 31 wr w.heap.size (fun k => k ≠ w.heap.size ∧ some k ≠ v8.ownBlock) v9 (chgTo l0 n a2 j) ∧ Below w.heap.size w wr ∧ wr.heap[w.heap.size]? = some (.cells #[.int .i64 a1_0, .int .i64 a1_1, .int .i64 a1_2, .int .i64 a1_3] 37 (0, 0))
theorem lat_len (l : List S31) (n : Int) : ∀ j : Nat, (latTo l n j).length ≤ j
  | 0 => by simp [latTo]
  | j + 1 => by
    have ih := lat_len l n j
    rw [latTo]
    split
    · simp; omega
    · omega
theorem chg_len (l : List S31) (n o : Int) : ∀ j : Nat, (chgTo l n o j).length = j
  | 0 => by simp [chgTo]
  | j + 1 => by
    have ih := chg_len l n o j
    simp [chgTo, ih]
theorem rd_mem {l : List S31} {j : Nat} (h : j < l.length) : rd_T31 l j ∈ l := by rw [rd_get h]; exact List.getElem_mem _
theorem mem_rd {l : List S31} {x : S31} (h : x ∈ l) : ∃ j : Nat, j < l.length ∧ rd_T31 l j = x := by
  obtain ⟨j, hj, he⟩ := List.getElem_of_mem h
  exact ⟨j, hj, by rw [rd_get hj, he]⟩
theorem lat_mem (l : List S31) (n : Int) (x : S31) : ∀ k : Nat, k ≤ l.length → (x ∈ latTo l n k ↔ ∃ j : Nat, j < k ∧ rd_T31 l j = x ∧ x.f0 = n)
  | 0, _ => by simp [latTo]
  | k + 1, h => by
    have ih := lat_mem l n x k (by omega)
    rw [latTo]
    by_cases hn : (rd_T31 l k).f0 = n
    · rw [if_pos hn, List.mem_append, ih, List.mem_singleton]
      refine ⟨fun h => ?_, fun ⟨j, hj, he, hv⟩ => ?_⟩
      · rcases h with ⟨j, hj, h⟩ | h
        · exact ⟨j, by omega, h⟩
        · exact ⟨k, by omega, h.symm, by rw [h]; exact hn⟩
      · rcases Nat.lt_succ_iff_lt_or_eq.1 hj with h1 | h1
        · exact .inl ⟨j, h1, he, hv⟩
        · exact .inr (by rw [← he, h1])
    · rw [if_neg hn, ih]
      refine ⟨fun ⟨j, hj, h⟩ => ⟨j, by omega, h⟩, fun ⟨j, hj, he, hv⟩ => ?_⟩
      rcases Nat.lt_succ_iff_lt_or_eq.1 hj with h1 | h1
      · exact ⟨j, h1, he, hv⟩
      · rw [h1] at he; rw [he] at hn; exact absurd hv hn
section
variable {l : List S31} {t : Int}
theorem lat_cur : curV (latTo l (curV l t) l.length) t = curV l t := by
  have hm := fun x => lat_mem l (curV l t) x l.length (Nat.le_refl _)
  rcases cur_at (latTo l (curV l t) l.length) t with h | ⟨i, hi, _, he⟩
  · rcases cur_at l t with h0 | ⟨j, hj, hc, he⟩
    · rw [h, h0]
    · obtain ⟨i, hi, hx⟩ := mem_rd ((hm (rd_T31 l j)).2 ⟨j, hj, rfl, he⟩)
      have h1 := cur_ge hi (by rw [hx]; exact hc)
      rw [hx, he, h] at h1
      have h2 := cur_pos l t
      omega
  · obtain ⟨_, _, _, hv⟩ := (hm _).1 (rd_mem hi)
    rw [← he, hv]
theorem lat_gr (m : S31 → Bool) : grV m (latTo l (curV l t) l.length) t = grV m l t := by
  have hm := fun x => lat_mem l (curV l t) x l.length (Nat.le_refl _)
  refine Int.le_antisymm ?_ ?_
  · rcases gr_at m (latTo l (curV l t) l.length) t with h | ⟨i, hi, hp, he⟩
    · rw [h]; exact gr_pos _ _ _
    · obtain ⟨j, hj, hx, _⟩ := (hm _).1 (rd_mem hi)
      rw [lat_cur] at hp
      rw [← he, ← hx]
      exact gr_ge hj (by rw [hx]; exact hp)
  · rcases gr_at m l t with h | ⟨j, hj, hp, he⟩
    · rw [h]; exact gr_pos _ _ _
    · obtain ⟨i, hi, hx⟩ := mem_rd ((hm (rd_T31 l j)).2 ⟨j, hj, rfl, hp.1⟩)
      rw [← he, ← hx]
      exact gr_ge hi (by rw [lat_cur, hx]; exact hp)
theorem chg_rd (n o : Int) : ∀ k j : Nat, j < k → k ≤ l.length → rd_T31 (chgTo l n o k) j = chgB n o (rd_T31 l j)
  | 0, j, h, _ => absurd h (by omega)
  | k + 1, j, h, hk => by
    have hl := chg_len l n o k
    rw [chgTo]
    rcases Nat.lt_succ_iff_lt_or_eq.1 h with h1 | h1
    · rw [rd_append_lt (by omega)]; exact chg_rd n o k j h1 (by omega)
    · have : j = (chgTo l n o k).length := by omega
      rw [this, rd_append_at, hl]
theorem chgB_cov (n o t : Int) (b : S31) : covB (chgB n o b) t = covB b t := by unfold chgB; split <;> rfl
theorem chgB_f0 (n o : Int) (b : S31) : (chgB n o b).f0 = b.f0 := by unfold chgB; split <;> rfl
theorem chg_curTo (n o : Int) : ∀ k : Nat, k ≤ l.length → curTo (chgTo l n o l.length) t k = curTo l t k
  | 0, _ => rfl
  | k + 1, h => by
    rw [curTo, curTo, chg_curTo n o k (by omega), chg_rd n o l.length k (by omega) (Nat.le_refl _), chgB_cov, chgB_f0]
theorem chg_cur (n o : Int) : curV (chgTo l n o l.length) t = curV l t := by
  unfold curV; rw [chg_len]; exact chg_curTo n o _ (Nat.le_refl _)
theorem chg_grTo (m : S31 → Bool) (n o : Int) : ∀ k : Nat, k ≤ l.length → grTo m n t (chgTo l n o l.length) k = grTo m n t l k
  | 0, _ => rfl
  | k + 1, h => by
    rw [grTo, grTo, chg_grTo m n o k (by omega), chg_rd n o l.length k (by omega) (Nat.le_refl _), chgB_f0]
    by_cases hn : (rd_T31 l k).f0 = n
    · rw [chgB, if_pos hn]
    · rw [if_neg (fun h => hn h.1), if_neg (fun h => hn h.1)]
theorem chg_gr (m : S31 → Bool) (o : Int) : grV m (chgTo l (curV l t) o l.length) t = grV m l t := by
  unfold grV; rw [chg_cur, chg_len]; exact chg_grTo m _ o _ (Nat.le_refl _)
end
end Go.Proofs.Ytibmbffhlicpaaa.A
