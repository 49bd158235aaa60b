/-
  No cell of these rows narrows 'for every input' (looked for: loops, veiled, ifaces, maps, wideKeys, modest, calm, conditions, laid).
  DERIVED. THE GIVEN ROWS OF THIS SEAT. 7 by the template 'for every input the law returns true; each argument reads behind the call as it read before'; 0 by the template 'total and deterministic' (their statements: YtdklkjgcnibbgaaTotals.lean).
  GIVEN WITH THE SEED: the statements are not yours to turn. If you find one false, say at which input.
  Laid BY PROGRAM, IN A SANDBOX (cutbox-rows.mjs): the forced cells as the released guide's own fill.sh prints them over the translation cab1ca7f23ffd02d… (all of the seat's roots in one cut). By AI agents, Wed Nov 11 2026. No macro, syntax, notation, axiom, sorry.
-/
import Derived.Test.YtdklkjgcnibbgaaChecked
import GoSem.Claim
import GoSem.ClaimJoined
import GoSem.ClaimMapViews
import Derived.JoinedTies
import Derived.KernelRfl
namespace Go.Proofs.Ytdklkjgcnibbgaa
/- THE CELL 'sum', in the pinned program and in every row, IS THE sha256 OF THE DUMP (.gsa) THAT YtdklkjgcnibbgaaProg.lean LOADS. Nothing in Lean hashes anything: it is a label: what it is worth is what the hold of that sum in a sandbox is worth. -/
noncomputable def Try.pinned : Pinned := { name := "ytdklkjgcnibbgaa", sum := "cab1ca7f23ffd02d448f6f5c232e3a736ca9d378ffd524df446212d5b8b4ffed", checked := Try.checked }
namespace Rows
def none {H : Type} : Left H := { results := [], args := [] }

/-- 'skiarealaw24.GroupRights': WHATEVER THE INPUT: true; the input reads as it did. -/
def groupRightsSpec : ChangeSpec := { name := "groupRights", fn := fun _ => fun
  | [d] => { results := [.lit (.bool true)], args := [d] }
  | _ => none }
def groupRightsRow : OpenClaim := { program := "ytdklkjgcnibbgaa", sum := "cab1ca7f23ffd02d448f6f5c232e3a736ca9d378ffd524df446212d5b8b4ffed", func := "skiarea/skiarealaw24.GroupRights", spec := "groupRights", unfollowed := true, recurses := true, apart := false }
def GroupRightsSaid : Prop := groupRightsRow.holds Try.pinned (OpenSpec.ofChange groupRightsSpec)

/-- ITS FALSE NEIGHBOUR: 'it returns false'. Refute it at one input. -/
def groupRightsWrong : ChangeSpec := { name := "groupRights", fn := fun _ => fun
  | [d] => { results := [.lit (.bool false)], args := [d] }
  | _ => none }
def GroupRightsWrongFalsely : Prop := groupRightsRow.holds Try.pinned (OpenSpec.ofChange groupRightsWrong)

/-- 'skiarealaw24.GroupCosts': WHATEVER THE INPUT: true; the input reads as it did. -/
def groupCostsSpec : ChangeSpec := { name := "groupCosts", fn := fun _ => fun
  | [d1, d2] => { results := [.lit (.bool true)], args := [d1, d2] }
  | _ => none }
def groupCostsRow : OpenClaim := { program := "ytdklkjgcnibbgaa", sum := "cab1ca7f23ffd02d448f6f5c232e3a736ca9d378ffd524df446212d5b8b4ffed", func := "skiarea/skiarealaw24.GroupCosts", spec := "groupCosts", unfollowed := true, recurses := true, apart := false }
def GroupCostsSaid : Prop := groupCostsRow.holds Try.pinned (OpenSpec.ofChange groupCostsSpec)

/-- ITS FALSE NEIGHBOUR: 'it returns false'. Refute it at one input. -/
def groupCostsWrong : ChangeSpec := { name := "groupCosts", fn := fun _ => fun
  | [d1, d2] => { results := [.lit (.bool false)], args := [d1, d2] }
  | _ => none }
def GroupCostsWrongFalsely : Prop := groupCostsRow.holds Try.pinned (OpenSpec.ofChange groupCostsWrong)

/-- 'skiarealaw24.GroupBests': WHATEVER THE INPUT: true; the input reads as it did. -/
def groupBestsSpec : ChangeSpec := { name := "groupBests", fn := fun _ => fun
  | [d] => { results := [.lit (.bool true)], args := [d] }
  | _ => none }
def groupBestsRow : OpenClaim := { program := "ytdklkjgcnibbgaa", sum := "cab1ca7f23ffd02d448f6f5c232e3a736ca9d378ffd524df446212d5b8b4ffed", func := "skiarea/skiarealaw24.GroupBests", spec := "groupBests", unfollowed := true, recurses := true, apart := false }
def GroupBestsSaid : Prop := groupBestsRow.holds Try.pinned (OpenSpec.ofChange groupBestsSpec)

/-- ITS FALSE NEIGHBOUR: 'it returns false'. Refute it at one input. -/
def groupBestsWrong : ChangeSpec := { name := "groupBests", fn := fun _ => fun
  | [d] => { results := [.lit (.bool false)], args := [d] }
  | _ => none }
def GroupBestsWrongFalsely : Prop := groupBestsRow.holds Try.pinned (OpenSpec.ofChange groupBestsWrong)

/-- 'skiarealaw24.GroupCheapest': WHATEVER THE INPUT: true; the input reads as it did. -/
def groupCheapestSpec : ChangeSpec := { name := "groupCheapest", fn := fun _ => fun
  | [d1, d2] => { results := [.lit (.bool true)], args := [d1, d2] }
  | _ => none }
def groupCheapestRow : OpenClaim := { program := "ytdklkjgcnibbgaa", sum := "cab1ca7f23ffd02d448f6f5c232e3a736ca9d378ffd524df446212d5b8b4ffed", func := "skiarea/skiarealaw24.GroupCheapest", spec := "groupCheapest", unfollowed := true, recurses := true, apart := false }
def GroupCheapestSaid : Prop := groupCheapestRow.holds Try.pinned (OpenSpec.ofChange groupCheapestSpec)

/-- ITS FALSE NEIGHBOUR: 'it returns false'. Refute it at one input. -/
def groupCheapestWrong : ChangeSpec := { name := "groupCheapest", fn := fun _ => fun
  | [d1, d2] => { results := [.lit (.bool false)], args := [d1, d2] }
  | _ => none }
def GroupCheapestWrongFalsely : Prop := groupCheapestRow.holds Try.pinned (OpenSpec.ofChange groupCheapestWrong)

/-- 'skiarealaw24.GroupOffers': WHATEVER THE INPUT: true; the input reads as it did. -/
def groupOffersSpec : ChangeSpec := { name := "groupOffers", fn := fun _ => fun
  | [d1, d2] => { results := [.lit (.bool true)], args := [d1, d2] }
  | _ => none }
def groupOffersRow : OpenClaim := { program := "ytdklkjgcnibbgaa", sum := "cab1ca7f23ffd02d448f6f5c232e3a736ca9d378ffd524df446212d5b8b4ffed", func := "skiarea/skiarealaw24.GroupOffers", spec := "groupOffers", unfollowed := true, recurses := true, apart := false }
def GroupOffersSaid : Prop := groupOffersRow.holds Try.pinned (OpenSpec.ofChange groupOffersSpec)

/-- ITS FALSE NEIGHBOUR: 'it returns false'. Refute it at one input. -/
def groupOffersWrong : ChangeSpec := { name := "groupOffers", fn := fun _ => fun
  | [d1, d2] => { results := [.lit (.bool false)], args := [d1, d2] }
  | _ => none }
def GroupOffersWrongFalsely : Prop := groupOffersRow.holds Try.pinned (OpenSpec.ofChange groupOffersWrong)

/-- 'skiarealaw24.GroupFewer': WHATEVER THE INPUT: true; the input reads as it did. -/
def groupFewerSpec : ChangeSpec := { name := "groupFewer", fn := fun _ => fun
  | [d1, d2] => { results := [.lit (.bool true)], args := [d1, d2] }
  | _ => none }
def groupFewerRow : OpenClaim := { program := "ytdklkjgcnibbgaa", sum := "cab1ca7f23ffd02d448f6f5c232e3a736ca9d378ffd524df446212d5b8b4ffed", func := "skiarea/skiarealaw24.GroupFewer", spec := "groupFewer", unfollowed := true, recurses := true, apart := false }
def GroupFewerSaid : Prop := groupFewerRow.holds Try.pinned (OpenSpec.ofChange groupFewerSpec)

/-- ITS FALSE NEIGHBOUR: 'it returns false'. Refute it at one input. -/
def groupFewerWrong : ChangeSpec := { name := "groupFewer", fn := fun _ => fun
  | [d1, d2] => { results := [.lit (.bool false)], args := [d1, d2] }
  | _ => none }
def GroupFewerWrongFalsely : Prop := groupFewerRow.holds Try.pinned (OpenSpec.ofChange groupFewerWrong)

/-- 'skiarealaw24.GroupOrder': WHATEVER THE INPUT: true; the input reads as it did. -/
def groupOrderSpec : ChangeSpec := { name := "groupOrder", fn := fun _ => fun
  | [d] => { results := [.lit (.bool true)], args := [d] }
  | _ => none }
def groupOrderRow : OpenClaim := { program := "ytdklkjgcnibbgaa", sum := "cab1ca7f23ffd02d448f6f5c232e3a736ca9d378ffd524df446212d5b8b4ffed", func := "skiarea/skiarealaw24.GroupOrder", spec := "groupOrder", unfollowed := true, recurses := true, apart := false }
def GroupOrderSaid : Prop := groupOrderRow.holds Try.pinned (OpenSpec.ofChange groupOrderSpec)

/-- ITS FALSE NEIGHBOUR: 'it returns false'. Refute it at one input. -/
def groupOrderWrong : ChangeSpec := { name := "groupOrder", fn := fun _ => fun
  | [d] => { results := [.lit (.bool false)], args := [d] }
  | _ => none }
def GroupOrderWrongFalsely : Prop := groupOrderRow.holds Try.pinned (OpenSpec.ofChange groupOrderWrong)

/- THE SECOND FORM. 'bulk': how many values and letters a reading holds, each counted each time it is reached (what is shared counts as often as it is met; a slice's spare places count too). A statement '..UptoSaid' is the law's where the arguments, and the package variables that the reading takes, are together of bulk at most 1048576: NARROWER than '..Said'. Prove '..Said' where nothing that the law and all that it calls make is longer than what came in: it says more and counts as full. Else prove '..UptoSaid'. A law counts once. -/
mutual
def uptoBulk {H : Type} : DataW H → Nat
  | .lit (.string bytes) => bytes.length + 1
  | .lit _ => 1
  | .nil => 1
  | .ptr d => uptoBulk d + 1
  | .slice elems spare => uptoBulkAll elems + uptoBulkAll spare + 1
  | .agg parts => uptoBulkAll parts + 1
  | .iface _ d => uptoBulk d + 1
  | .map entries => uptoBulkEntries entries + 1
  | .held _ => 1
def uptoBulkAll {H : Type} : List (DataW H) → Nat
  | [] => 0
  | d :: r => uptoBulk d + uptoBulkAll r
def uptoBulkEntries {H : Type} : List (Lit × DataW H) → Nat
  | [] => 0
  | x :: r => uptoBulkEntry x + uptoBulkEntries r
def uptoBulkEntry {H : Type} : Lit × DataW H → Nat
  | (.string bytes, d) => bytes.length + uptoBulk d + 1
  | (_, d) => uptoBulk d + 1
 end
def uptoSmall : (H : Type) → List (DataW H) → Bool := fun _ ds => decide (uptoBulkAll ds ≤ 1048576)
def OpenSpec.upto (s : _root_.Go.ChangeSpec) : _root_.Go.OpenSpec := { _root_.Go.OpenSpec.ofChange s with cond := some uptoSmall }

/-- 'skiarealaw24.GroupRights', WHERE WHAT IT READS IS OF BULK AT MOST 1048576: true; the input reads as it did. -/
def groupRightsUptoRow : OpenClaim := { program := "ytdklkjgcnibbgaa", sum := "cab1ca7f23ffd02d448f6f5c232e3a736ca9d378ffd524df446212d5b8b4ffed", func := "skiarea/skiarealaw24.GroupRights", spec := "groupRights", unfollowed := true, recurses := true, apart := false, narrowed := true }
def GroupRightsUptoSaid : Prop := groupRightsUptoRow.holds Try.pinned (OpenSpec.upto groupRightsSpec)

/-- 'skiarealaw24.GroupCosts', WHERE WHAT IT READS IS OF BULK AT MOST 1048576: true; the input reads as it did. -/
def groupCostsUptoRow : OpenClaim := { program := "ytdklkjgcnibbgaa", sum := "cab1ca7f23ffd02d448f6f5c232e3a736ca9d378ffd524df446212d5b8b4ffed", func := "skiarea/skiarealaw24.GroupCosts", spec := "groupCosts", unfollowed := true, recurses := true, apart := false, narrowed := true }
def GroupCostsUptoSaid : Prop := groupCostsUptoRow.holds Try.pinned (OpenSpec.upto groupCostsSpec)

/-- 'skiarealaw24.GroupBests', WHERE WHAT IT READS IS OF BULK AT MOST 1048576: true; the input reads as it did. -/
def groupBestsUptoRow : OpenClaim := { program := "ytdklkjgcnibbgaa", sum := "cab1ca7f23ffd02d448f6f5c232e3a736ca9d378ffd524df446212d5b8b4ffed", func := "skiarea/skiarealaw24.GroupBests", spec := "groupBests", unfollowed := true, recurses := true, apart := false, narrowed := true }
def GroupBestsUptoSaid : Prop := groupBestsUptoRow.holds Try.pinned (OpenSpec.upto groupBestsSpec)

/-- 'skiarealaw24.GroupCheapest', WHERE WHAT IT READS IS OF BULK AT MOST 1048576: true; the input reads as it did. -/
def groupCheapestUptoRow : OpenClaim := { program := "ytdklkjgcnibbgaa", sum := "cab1ca7f23ffd02d448f6f5c232e3a736ca9d378ffd524df446212d5b8b4ffed", func := "skiarea/skiarealaw24.GroupCheapest", spec := "groupCheapest", unfollowed := true, recurses := true, apart := false, narrowed := true }
def GroupCheapestUptoSaid : Prop := groupCheapestUptoRow.holds Try.pinned (OpenSpec.upto groupCheapestSpec)

/-- 'skiarealaw24.GroupOffers', WHERE WHAT IT READS IS OF BULK AT MOST 1048576: true; the input reads as it did. -/
def groupOffersUptoRow : OpenClaim := { program := "ytdklkjgcnibbgaa", sum := "cab1ca7f23ffd02d448f6f5c232e3a736ca9d378ffd524df446212d5b8b4ffed", func := "skiarea/skiarealaw24.GroupOffers", spec := "groupOffers", unfollowed := true, recurses := true, apart := false, narrowed := true }
def GroupOffersUptoSaid : Prop := groupOffersUptoRow.holds Try.pinned (OpenSpec.upto groupOffersSpec)

/-- 'skiarealaw24.GroupFewer', WHERE WHAT IT READS IS OF BULK AT MOST 1048576: true; the input reads as it did. -/
def groupFewerUptoRow : OpenClaim := { program := "ytdklkjgcnibbgaa", sum := "cab1ca7f23ffd02d448f6f5c232e3a736ca9d378ffd524df446212d5b8b4ffed", func := "skiarea/skiarealaw24.GroupFewer", spec := "groupFewer", unfollowed := true, recurses := true, apart := false, narrowed := true }
def GroupFewerUptoSaid : Prop := groupFewerUptoRow.holds Try.pinned (OpenSpec.upto groupFewerSpec)

/-- 'skiarealaw24.GroupOrder', WHERE WHAT IT READS IS OF BULK AT MOST 1048576: true; the input reads as it did. -/
def groupOrderUptoRow : OpenClaim := { program := "ytdklkjgcnibbgaa", sum := "cab1ca7f23ffd02d448f6f5c232e3a736ca9d378ffd524df446212d5b8b4ffed", func := "skiarea/skiarealaw24.GroupOrder", spec := "groupOrder", unfollowed := true, recurses := true, apart := false, narrowed := true }
def GroupOrderUptoSaid : Prop := groupOrderUptoRow.holds Try.pinned (OpenSpec.upto groupOrderSpec)

end Rows
end Go.Proofs.Ytdklkjgcnibbgaa
