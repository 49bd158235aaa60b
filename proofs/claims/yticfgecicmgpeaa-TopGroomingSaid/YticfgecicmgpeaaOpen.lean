import Derived.Test.YticfgecicmgpeaaAx0
import Derived.Deep.Slices
import Derived.OpenShut
namespace Go.Proofs.Yticfgecicmgpeaa.A
open Go.RowKit Go.Proofs.YticfgecicmgpeaaW.PrintWords Go.Proofs.YticfgecicmgpeaaW.PrintLast Go.Proofs.YticfgecicmgpeaaW.PrintMore
set_option linter.unusedVariables false
set_option linter.unusedSimpArgs false
/-! ### Data that came in, read as a kind: whatever its type -/
section
/-- Whatever reads as data of type t reads as a value of the kind d, and 'good' holds of it. -/
def Opens {α : Type} (P : Program) (t : TypeId) (d : Kd α) (good : α → Prop) : Prop :=
  ∀ (H : Type) (enc : TypeId × Value → H) (w : World) (base : Nat) (spare : Nat → Bool) (held : Bool) (fuel : Nat) (cs : List Value) (x : DataW H × List MemPlace), DataW.trod enc P w base spare held fuel t cs = some x → ∃ a, d.K w a cs ∧ good a
variable {P : Program} {α β : Type}
theorem Opens.int {t : TypeId} {k : IntKind} (ht : P.underlying t = some (.int k)) : Opens P t (Kd.int k) (fun x => (Lit.int k x).wf = true) := by
  intro H enc w base spare held fuel cs x h
  obtain ⟨n, rfl, _, hw⟩ := DataW.trod_int ht h
  exact ⟨n, rfl, hw⟩
theorem Opens.bool {t : TypeId} (ht : P.underlying t = some .bool) : Opens P t Kd.bool (fun _ => True) := by
  intro H enc w base spare held fuel cs x h
  obtain ⟨b, rfl, _⟩ := DataW.trod_bool ht h
  exact ⟨b, rfl, trivial⟩
theorem opens_cells {w : World} {base n : Nat} {a : Addr} {cs : List Value} (h : w.cells? base a n = some cs) : cs.length = n ∧ ∀ i u, cs[i]? = some u → w.cell? (a.add i) = some u := by
  obtain ⟨_, hl, hc⟩ := World.cells?_some h
  refine ⟨hl, fun i u hu => ?_⟩
  have hi : i < cs.length := (List.getElem?_eq_some_iff.1 hu).1
  rw [hc i (by omega)]
  exact hu
theorem Opens.slice {t e : TypeId} {d : Kd α} {g : α → Prop} (ht : P.underlying t = some (.slice e)) (hsz : P.cellsOf e = d.sz) (he : Opens P e d g) :
    Opens P t (Kd.slice e d) (fun xs => xs.length ≤ 9223372036854775807 ∧ ∀ x ∈ xs, g x) := by
  intro H enc w base spare held fuel cs x h
  rcases Go.Deep.open_slice ht h with ⟨rfl, _⟩ | ⟨a, len, cap, m, n, D, Pl, rfl, hb, hl, hm, hmm, hx, hi⟩
  · exact ⟨[], ⟨none, 0, rfl, Nat.le_refl _, Kd.C_nil _ _⟩, by simp, by simp⟩
  have hlm : len ≤ m := by rw [hmm]; split <;> omega
  have key : ∀ k, k ≤ len → ∃ xs : List α, xs.length = k ∧ (∀ x ∈ xs, g x) ∧ ∀ j p, xs[j]? = some p → ∃ c : List Value, c.length = d.sz ∧ d.K w p c ∧ ∀ i u, c[i]? = some u → w.cell? (a.add (j * d.sz + i)) = some u := by
    intro k
    induction k with
    | zero => exact fun _ => ⟨[], rfl, by simp, fun j p hj => by simp at hj⟩
    | succ k ih =>
      intro hk
      obtain ⟨xs, h1, h2, h3⟩ := ih (by omega)
      obtain ⟨cs', hc, ht'⟩ := hi k (by omega)
      obtain ⟨y, hy, hg⟩ := he _ _ _ _ _ _ _ _ _ ht'
      obtain ⟨hcl, hcc⟩ := opens_cells hc
      refine ⟨xs ++ [y], by simp [h1], fun z hz => ?_, fun j p hj => ?_⟩
      · rcases List.mem_append.1 hz with hz | hz
        · exact h2 z hz
        · rw [List.mem_singleton.1 hz]; exact hg
      · rcases Nat.lt_or_ge j xs.length with hjl | hjl
        · rw [List.getElem?_append_left hjl] at hj
          exact h3 j p hj
        · have hjk : j = k := by
            have := (List.getElem?_eq_some_iff.1 hj).1
            simp at this; omega
          subst hjk
          have hp : y = p := by
            rw [List.getElem?_append_right (by omega), show j - xs.length = 0 by omega] at hj
            simpa using hj
          subst hp
          refine ⟨cs', by rw [hcl, hsz], hy, fun i u hu => ?_⟩
          have := hcc i u hu
          rwa [Go.Deep.add_add, hsz] at this
  obtain ⟨xs, h1, h2, h3⟩ := key len (Nat.le_refl _)
  have hmx : len ≤ 9223372036854775807 := by have := hm; unfold maxLen at this; omega
  refine ⟨xs, ⟨some a, cap, by rw [h1], by omega, ⟨rfl, by omega, fun _ => ⟨a, rfl, h3⟩⟩⟩, by omega, h2⟩
/-- A struct's fields from a place on, as a chain of pairs. -/
def OpensF (P : Program) (fs : List (Nat × TypeId)) (off : Nat) (d : Kd α) (good : α → Prop) : Prop :=
  ∀ (H : Type) (enc : TypeId × Value → H) (w : World) (base : Nat) (spare : Nat → Bool) (held : Bool) (fuel : Nat) (cs : List Value), (∀ f ∈ fs, ∃ x, DataW.trod enc P w base spare held fuel f.2 ((cs.drop f.1).take (P.cellsOf f.2)) = some x) → cs.length = off + d.sz → ∃ a, d.K w a (cs.drop off) ∧ good a
theorem OpensF.one {o : Nat} {t : TypeId} {d : Kd α} {g : α → Prop} (hsz : P.cellsOf t = d.sz) (h : Opens P t d g) : OpensF P [(o, t)] o d g := by
  intro H enc w base spare held fuel cs hf hl
  obtain ⟨x, hx⟩ := hf (o, t) (List.mem_singleton.2 rfl)
  have : (cs.drop o).take (P.cellsOf t) = cs.drop o := List.take_of_length_le (by rw [List.length_drop, hsz]; omega)
  simp only at hx
  rw [this] at hx
  exact h _ _ _ _ _ _ _ _ _ hx
theorem OpensF.cons {o : Nat} {t : TypeId} {fs : List (Nat × TypeId)} {d : Kd α} {d' : Kd β} {g : α → Prop} {g' : β → Prop} (hsz : P.cellsOf t = d.sz) (h : Opens P t d g) (h' : OpensF P fs (o + d.sz) d' g') :
    OpensF P ((o, t) :: fs) o (Kd.pair d d') (fun x => g x.1 ∧ g' x.2) := by
  intro H enc w base spare held fuel cs hf hl
  obtain ⟨x, hx⟩ := hf (o, t) (List.mem_cons_self ..)
  simp only at hx
  obtain ⟨a, ha, hg⟩ := h _ _ _ _ _ _ _ _ _ hx
  have hl2 : cs.length = o + (d.sz + d'.sz) := hl
  obtain ⟨b, hb, hg'⟩ := h' H enc w base spare held fuel cs (fun f hm => hf f (List.mem_cons_of_mem _ hm)) (by omega)
  refine ⟨(a, b), ⟨(cs.drop o).take (P.cellsOf t), cs.drop (o + d.sz), ?_, ha, hb⟩, hg, hg'⟩
  rw [← List.drop_drop, ← hsz, List.take_append_drop]
theorem Opens.struct {t : TypeId} {fs : Array Field} {d : Kd α} {g : α → Prop} (ht : P.underlying t = some (.struct fs)) (hsz : P.cellsOf t = d.sz) (h : OpensF P (fs.toList.map fun f => (f.offset, f.type)) 0 d g) : Opens P t d g := by
  intro H enc w base spare held fuel cs x hx
  obtain ⟨xs, n, _, _, hl, hxl, hf⟩ := DataW.trod_struct ht hx
  have := h H enc w base spare held n cs (fun f hm => ?_) (by omega)
  · rwa [List.drop_zero] at this
  · obtain ⟨fd, hfd, rfl⟩ := List.mem_map.1 hm
    obtain ⟨i, hi, rfl⟩ := List.getElem_of_mem hfd
    have hia : i < fs.size := by simpa using hi
    have h1 := hf i fs[i] (Array.getElem?_eq_getElem hia)
    refine ⟨xs[i]'(by omega), ?_⟩
    simp only [Array.getElem_toList]
    rw [h1, List.getElem?_eq_getElem (by omega)]
theorem Opens.array2 {t e : TypeId} {d : Kd α} {d' : Kd β} {g : α → Prop} {g' : β → Prop} (ht : P.underlying t = some (.array 2 e)) (hsz : P.cellsOf t = (Kd.pair d d').sz) (he : P.cellsOf e = d.sz) (he' : P.cellsOf e = d'.sz) (h : Opens P e d g) (h' : Opens P e d' g') : Opens P t (Kd.pair d d') (fun x => g x.1 ∧ g' x.2) := by
  intro H enc w base spare held fuel cs x hx
  obtain ⟨xs, n, _, _, hl, hxl, hf⟩ := DataW.trod_array ht hx
  have hF : OpensF P [(0, e), (0 + d.sz, e)] 0 (Kd.pair d d') (fun x => g x.1 ∧ g' x.2) := OpensF.cons he h (OpensF.one he' h')
  have := hF H enc w base spare held n cs (fun f hm => ?_) (by rw [hl, hsz]; omega)
  · rwa [List.drop_zero] at this
  · simp only [List.mem_cons, List.not_mem_nil, or_false] at hm
    rcases hm with rfl | rfl
    · exact ⟨xs[0]'(by omega), by have := hf 0 (by omega); simpa [List.getElem?_eq_getElem (show 0 < xs.length by omega)] using this⟩
    · exact ⟨xs[1]'(by omega), by have := hf 1 (by omega); simpa [he, List.getElem?_eq_getElem (show 1 < xs.length by omega)] using this⟩
theorem Opens.iso {t : TypeId} {d : Kd α} {f : β → α} {f' : α → β} {g : α → Prop} {g' : β → Prop} (hff : ∀ a, f (f' a) = a) (hg : ∀ a, g a → g' (f' a)) (h : Opens P t d g) : Opens P t (Kd.iso d f) g' := by
  intro H enc w base spare held fuel cs x hx
  obtain ⟨a, ha, hga⟩ := h _ _ _ _ _ _ _ _ _ hx
  exact ⟨f' a, by show d.K w (f (f' a)) cs; rw [hff]; exact ha, hg a hga⟩
end

theorem Opens.weaken {P : Program} {α : Type} {t : TypeId} {d : Kd α} {g g' : α → Prop} (h : Opens P t d g) (hg : ∀ a, g a → g' a) : Opens P t d g' := by
  intro H enc w base spare held fuel cs x hx
  obtain ⟨a, ha, hga⟩ := h _ _ _ _ _ _ _ _ _ hx
  exact ⟨a, ha, hg a hga⟩
def GoodL {α : Type} (g : α → Prop) (xs : List α) : Prop := xs.length ≤ 9223372036854775807 ∧ ∀ x ∈ xs, g x
def InI64 (x : Int) : Prop := -9223372036854775808 ≤ x ∧ x ≤ 9223372036854775807
theorem ini64_wf {x : Int} (h : (Lit.int .i64 x).wf = true) : InI64 x := by
  have h' : (decide (IntKind.i64.min ≤ x) && decide (x ≤ IntKind.i64.max)) = true := h
  rw [Bool.and_eq_true, decide_eq_true_iff, decide_eq_true_iff] at h'
  have e1 : IntKind.i64.min = -9223372036854775808 := by decide
  have e2 : IntKind.i64.max = 9223372036854775807 := by decide
  unfold InI64; omega
def InU8 (x : Int) : Prop := 0 ≤ x ∧ x ≤ 255
theorem inu8_wf {x : Int} (h : (Lit.int .u8 x).wf = true) : InU8 x := by
  have h' : (decide (IntKind.u8.min ≤ x) && decide (x ≤ IntKind.u8.max)) = true := h
  rw [Bool.and_eq_true, decide_eq_true_iff, decide_eq_true_iff] at h'
  have e1 : IntKind.u8.min = 0 := by decide
  have e2 : IntKind.u8.max = 255 := by decide
  unfold InU8; omega
theorem opens3 : Opens Try.prog 3 (Kd.int .i64) (fun x => InI64 x) := Opens.weaken (Opens.int Try.underlying3) (fun x h => ini64_wf h)
theorem opens4 : Opens Try.prog 4 Kd.bool (fun _ => True) := Opens.bool Try.underlying4
theorem opens32 : Opens Try.prog 32 (Kd.slice 3 (Kd.int .i64)) (fun xs => GoodL (fun x => InI64 x) xs) := Opens.slice Try.underlying32 (by kernel_rfl) opens3
def good34 (x : S34) : Prop := InI64 x.f0 ∧ InI64 x.f1 ∧ True ∧ GoodL (fun x => InI64 x) x.f3
theorem opens34_ : Opens Try.prog 34 (Kd.pair (Kd.int .i64) (Kd.pair (Kd.int .i64) (Kd.pair Kd.bool (Kd.slice 3 (Kd.int .i64))))) (fun y => InI64 y.1 ∧ InI64 y.2.1 ∧ True ∧ GoodL (fun x => InI64 x) y.2.2.2) := Opens.struct Try.underlying34 (by kernel_rfl) (OpensF.cons (by kernel_rfl) opens3 (OpensF.cons (by kernel_rfl) opens3 (OpensF.cons (by kernel_rfl) opens4 (OpensF.one (by kernel_rfl) opens32))))
theorem opens34 : Opens Try.prog 34 k34 (fun x => good34 x) := by
  intro H enc w base spare held fuel cs x hx
  obtain ⟨y, ha, hg⟩ := opens34_ _ _ _ _ _ _ _ _ _ hx
  exact ⟨⟨y.1, y.2.1, y.2.2.1, y.2.2.2⟩, ha, hg⟩
theorem opens22 : Opens Try.prog 22 (Kd.slice 34 k34) (fun xs => GoodL (fun x => good34 x) xs) := Opens.slice Try.underlying22 (by kernel_rfl) opens34
theorem opens23 : Opens Try.prog 23 (Kd.slice 4 Kd.bool) (fun xs => GoodL (fun x => True) xs) := Opens.slice Try.underlying23 (by kernel_rfl) opens4
def good37 (x : S37) : Prop := InI64 x.f0 ∧ InI64 x.f1 ∧ InI64 x.f2 ∧ InI64 x.f3
theorem opens37_ : Opens Try.prog 37 (Kd.pair (Kd.int .i64) (Kd.pair (Kd.int .i64) (Kd.pair (Kd.int .i64) (Kd.int .i64)))) (fun y => InI64 y.1 ∧ InI64 y.2.1 ∧ InI64 y.2.2.1 ∧ InI64 y.2.2.2) := Opens.struct Try.underlying37 (by kernel_rfl) (OpensF.cons (by kernel_rfl) opens3 (OpensF.cons (by kernel_rfl) opens3 (OpensF.cons (by kernel_rfl) opens3 (OpensF.one (by kernel_rfl) opens3))))
theorem opens37 : Opens Try.prog 37 k37 (fun x => good37 x) := by
  intro H enc w base spare held fuel cs x hx
  obtain ⟨y, ha, hg⟩ := opens37_ _ _ _ _ _ _ _ _ _ hx
  exact ⟨⟨y.1, y.2.1, y.2.2.1, y.2.2.2⟩, ha, hg⟩
theorem opens24 : Opens Try.prog 24 (Kd.slice 37 k37) (fun xs => GoodL (fun x => good37 x) xs) := Opens.slice Try.underlying24 (by kernel_rfl) opens37
theorem opens5 : Opens Try.prog 5 (Kd.int .u8) (fun x => InU8 x) := Opens.weaken (Opens.int Try.underlying5) (fun x h => inu8_wf h)
end Go.Proofs.Yticfgecicmgpeaa.A
