/-
  No cell of these rows narrows 'for every input' (looked for: loops, veiled, ifaces, maps, wideKeys, modest, calm, conditions, laid).
  DERIVED. THE GIVEN ROWS OF THIS SEAT. 8 by the template 'for every input the law returns true; each argument reads behind the call as it read before'; 0 by the template 'total and deterministic' (their statements: YticfgecicmgpeaaTotals.lean).
  GIVEN WITH THE SEED: the statements are not yours to turn. If you find one false, say at which input.
  Laid BY PROGRAM, IN A SANDBOX (cutbox-rows.mjs): the forced cells as the released guide's own fill.sh prints them over the translation 852b17ea689ae308… (all of the seat's roots in one cut). By AI agents, Wed Nov 11 2026. No macro, syntax, notation, axiom, sorry.
-/
import Derived.Test.YticfgecicmgpeaaChecked
import GoSem.Claim
import GoSem.ClaimJoined
import GoSem.ClaimMapViews
import Derived.JoinedTies
import Derived.KernelRfl
namespace Go.Proofs.Yticfgecicmgpeaa
/- THE CELL 'sum', in the pinned program and in every row, IS THE sha256 OF THE DUMP (.gsa) THAT YticfgecicmgpeaaProg.lean LOADS. Nothing in Lean hashes anything: it is a label: what it is worth is what the hold of that sum in a sandbox is worth. -/
noncomputable def Try.pinned : Pinned := { name := "yticfgecicmgpeaa", sum := "852b17ea689ae308a2bef82540fdabea95b0749dd484e6b2774579a9f6551c98", checked := Try.checked }
namespace Rows
def none {H : Type} : Left H := { results := [], args := [] }

/-- 'skiareatop.TopGrooming': WHATEVER THE INPUT: true; the input reads as it did. -/
def topGroomingSpec : ChangeSpec := { name := "topGrooming", fn := fun _ => fun
  | [d1, d2, d3] => { results := [.lit (.bool true)], args := [d1, d2, d3] }
  | _ => none }
def topGroomingRow : OpenClaim := { program := "yticfgecicmgpeaa", sum := "852b17ea689ae308a2bef82540fdabea95b0749dd484e6b2774579a9f6551c98", func := "skiarea/skiareatop.TopGrooming", spec := "topGrooming", unfollowed := true, recurses := true, apart := false }
def TopGroomingSaid : Prop := topGroomingRow.holds Try.pinned (OpenSpec.ofChange topGroomingSpec)

/-- ITS FALSE NEIGHBOUR: 'it returns false'. Refute it at one input. -/
def topGroomingWrong : ChangeSpec := { name := "topGrooming", fn := fun _ => fun
  | [d1, d2, d3] => { results := [.lit (.bool false)], args := [d1, d2, d3] }
  | _ => none }
def TopGroomingWrongFalsely : Prop := topGroomingRow.holds Try.pinned (OpenSpec.ofChange topGroomingWrong)

/-- 'skiarealaw47.RouteRight': WHATEVER THE INPUT: true; the input reads as it did. -/
def routeRightSpec : ChangeSpec := { name := "routeRight", fn := fun _ => fun
  | [d1, d2] => { results := [.lit (.bool true)], args := [d1, d2] }
  | _ => none }
def routeRightRow : OpenClaim := { program := "yticfgecicmgpeaa", sum := "852b17ea689ae308a2bef82540fdabea95b0749dd484e6b2774579a9f6551c98", func := "skiarea/skiarealaw47.RouteRight", spec := "routeRight", unfollowed := true, recurses := true, apart := false }
def RouteRightSaid : Prop := routeRightRow.holds Try.pinned (OpenSpec.ofChange routeRightSpec)

/-- ITS FALSE NEIGHBOUR: 'it returns false'. Refute it at one input. -/
def routeRightWrong : ChangeSpec := { name := "routeRight", fn := fun _ => fun
  | [d1, d2] => { results := [.lit (.bool false)], args := [d1, d2] }
  | _ => none }
def RouteRightWrongFalsely : Prop := routeRightRow.holds Try.pinned (OpenSpec.ofChange routeRightWrong)

/-- 'skiarealaw47.RouteValid': WHATEVER THE INPUT: true; the input reads as it did. -/
def routeValidSpec : ChangeSpec := { name := "routeValid", fn := fun _ => fun
  | [d1, d2, d3] => { results := [.lit (.bool true)], args := [d1, d2, d3] }
  | _ => none }
def routeValidRow : OpenClaim := { program := "yticfgecicmgpeaa", sum := "852b17ea689ae308a2bef82540fdabea95b0749dd484e6b2774579a9f6551c98", func := "skiarea/skiarealaw47.RouteValid", spec := "routeValid", unfollowed := true, recurses := true, apart := false }
def RouteValidSaid : Prop := routeValidRow.holds Try.pinned (OpenSpec.ofChange routeValidSpec)

/-- ITS FALSE NEIGHBOUR: 'it returns false'. Refute it at one input. -/
def routeValidWrong : ChangeSpec := { name := "routeValid", fn := fun _ => fun
  | [d1, d2, d3] => { results := [.lit (.bool false)], args := [d1, d2, d3] }
  | _ => none }
def RouteValidWrongFalsely : Prop := routeValidRow.holds Try.pinned (OpenSpec.ofChange routeValidWrong)

/-- 'skiarealaw47.RouteCounts': WHATEVER THE INPUT: true; the input reads as it did. -/
def routeCountsSpec : ChangeSpec := { name := "routeCounts", fn := fun _ => fun
  | [d1, d2] => { results := [.lit (.bool true)], args := [d1, d2] }
  | _ => none }
def routeCountsRow : OpenClaim := { program := "yticfgecicmgpeaa", sum := "852b17ea689ae308a2bef82540fdabea95b0749dd484e6b2774579a9f6551c98", func := "skiarea/skiarealaw47.RouteCounts", spec := "routeCounts", unfollowed := true, recurses := true, apart := false }
def RouteCountsSaid : Prop := routeCountsRow.holds Try.pinned (OpenSpec.ofChange routeCountsSpec)

/-- ITS FALSE NEIGHBOUR: 'it returns false'. Refute it at one input. -/
def routeCountsWrong : ChangeSpec := { name := "routeCounts", fn := fun _ => fun
  | [d1, d2] => { results := [.lit (.bool false)], args := [d1, d2] }
  | _ => none }
def RouteCountsWrongFalsely : Prop := routeCountsRow.holds Try.pinned (OpenSpec.ofChange routeCountsWrong)

/-- 'skiarealaw47.RouteFinds': WHATEVER THE INPUT: true; the input reads as it did. -/
def routeFindsSpec : ChangeSpec := { name := "routeFinds", fn := fun _ => fun
  | [d1, d2] => { results := [.lit (.bool true)], args := [d1, d2] }
  | _ => none }
def routeFindsRow : OpenClaim := { program := "yticfgecicmgpeaa", sum := "852b17ea689ae308a2bef82540fdabea95b0749dd484e6b2774579a9f6551c98", func := "skiarea/skiarealaw47.RouteFinds", spec := "routeFinds", unfollowed := true, recurses := true, apart := false }
def RouteFindsSaid : Prop := routeFindsRow.holds Try.pinned (OpenSpec.ofChange routeFindsSpec)

/-- ITS FALSE NEIGHBOUR: 'it returns false'. Refute it at one input. -/
def routeFindsWrong : ChangeSpec := { name := "routeFinds", fn := fun _ => fun
  | [d1, d2] => { results := [.lit (.bool false)], args := [d1, d2] }
  | _ => none }
def RouteFindsWrongFalsely : Prop := routeFindsRow.holds Try.pinned (OpenSpec.ofChange routeFindsWrong)

/-- 'skiarealaw47.RouteLeast': WHATEVER THE INPUT: true; the input reads as it did. -/
def routeLeastSpec : ChangeSpec := { name := "routeLeast", fn := fun _ => fun
  | [d1, d2, d3] => { results := [.lit (.bool true)], args := [d1, d2, d3] }
  | _ => none }
def routeLeastRow : OpenClaim := { program := "yticfgecicmgpeaa", sum := "852b17ea689ae308a2bef82540fdabea95b0749dd484e6b2774579a9f6551c98", func := "skiarea/skiarealaw47.RouteLeast", spec := "routeLeast", unfollowed := true, recurses := true, apart := false }
def RouteLeastSaid : Prop := routeLeastRow.holds Try.pinned (OpenSpec.ofChange routeLeastSpec)

/-- ITS FALSE NEIGHBOUR: 'it returns false'. Refute it at one input. -/
def routeLeastWrong : ChangeSpec := { name := "routeLeast", fn := fun _ => fun
  | [d1, d2, d3] => { results := [.lit (.bool false)], args := [d1, d2, d3] }
  | _ => none }
def RouteLeastWrongFalsely : Prop := routeLeastRow.holds Try.pinned (OpenSpec.ofChange routeLeastWrong)

/-- 'skiarealaw47.RouteBounds': WHATEVER THE INPUT: true; the input reads as it did. -/
def routeBoundsSpec : ChangeSpec := { name := "routeBounds", fn := fun _ => fun
  | [d1, d2] => { results := [.lit (.bool true)], args := [d1, d2] }
  | _ => none }
def routeBoundsRow : OpenClaim := { program := "yticfgecicmgpeaa", sum := "852b17ea689ae308a2bef82540fdabea95b0749dd484e6b2774579a9f6551c98", func := "skiarea/skiarealaw47.RouteBounds", spec := "routeBounds", unfollowed := true, recurses := true, apart := false }
def RouteBoundsSaid : Prop := routeBoundsRow.holds Try.pinned (OpenSpec.ofChange routeBoundsSpec)

/-- ITS FALSE NEIGHBOUR: 'it returns false'. Refute it at one input. -/
def routeBoundsWrong : ChangeSpec := { name := "routeBounds", fn := fun _ => fun
  | [d1, d2] => { results := [.lit (.bool false)], args := [d1, d2] }
  | _ => none }
def RouteBoundsWrongFalsely : Prop := routeBoundsRow.holds Try.pinned (OpenSpec.ofChange routeBoundsWrong)

/-- 'skiarealaw47.RouteLess': WHATEVER THE INPUT: true; the input reads as it did. -/
def routeLessSpec : ChangeSpec := { name := "routeLess", fn := fun _ => fun
  | [d1, d2, d3, d4] => { results := [.lit (.bool true)], args := [d1, d2, d3, d4] }
  | _ => none }
def routeLessRow : OpenClaim := { program := "yticfgecicmgpeaa", sum := "852b17ea689ae308a2bef82540fdabea95b0749dd484e6b2774579a9f6551c98", func := "skiarea/skiarealaw47.RouteLess", spec := "routeLess", unfollowed := true, recurses := true, apart := false }
def RouteLessSaid : Prop := routeLessRow.holds Try.pinned (OpenSpec.ofChange routeLessSpec)

/-- ITS FALSE NEIGHBOUR: 'it returns false'. Refute it at one input. -/
def routeLessWrong : ChangeSpec := { name := "routeLess", fn := fun _ => fun
  | [d1, d2, d3, d4] => { results := [.lit (.bool false)], args := [d1, d2, d3, d4] }
  | _ => none }
def RouteLessWrongFalsely : Prop := routeLessRow.holds Try.pinned (OpenSpec.ofChange routeLessWrong)

/- THE SECOND FORM. 'bulk': how many values and letters a reading holds, each counted each time it is reached (what is shared counts as often as it is met; a slice's spare places count too). A statement '..UptoSaid' is the law's where the arguments, and the package variables that the reading takes, are together of bulk at most 1048576: NARROWER than '..Said'. Prove '..Said' where nothing that the law and all that it calls make is longer than what came in: it says more and counts as full. Else prove '..UptoSaid'. A law counts once. -/
mutual
def uptoBulk {H : Type} : DataW H → Nat
  | .lit (.string bytes) => bytes.length + 1
  | .lit _ => 1
  | .nil => 1
  | .ptr d => uptoBulk d + 1
  | .slice elems spare => uptoBulkAll elems + uptoBulkAll spare + 1
  | .agg parts => uptoBulkAll parts + 1
  | .iface _ d => uptoBulk d + 1
  | .map entries => uptoBulkEntries entries + 1
  | .held _ => 1
def uptoBulkAll {H : Type} : List (DataW H) → Nat
  | [] => 0
  | d :: r => uptoBulk d + uptoBulkAll r
def uptoBulkEntries {H : Type} : List (Lit × DataW H) → Nat
  | [] => 0
  | x :: r => uptoBulkEntry x + uptoBulkEntries r
def uptoBulkEntry {H : Type} : Lit × DataW H → Nat
  | (.string bytes, d) => bytes.length + uptoBulk d + 1
  | (_, d) => uptoBulk d + 1
 end
def uptoSmall : (H : Type) → List (DataW H) → Bool := fun _ ds => decide (uptoBulkAll ds ≤ 1048576)
def OpenSpec.upto (s : _root_.Go.ChangeSpec) : _root_.Go.OpenSpec := { _root_.Go.OpenSpec.ofChange s with cond := some uptoSmall }

/-- 'skiareatop.TopGrooming', WHERE WHAT IT READS IS OF BULK AT MOST 1048576: true; the input reads as it did. -/
def topGroomingUptoRow : OpenClaim := { program := "yticfgecicmgpeaa", sum := "852b17ea689ae308a2bef82540fdabea95b0749dd484e6b2774579a9f6551c98", func := "skiarea/skiareatop.TopGrooming", spec := "topGrooming", unfollowed := true, recurses := true, apart := false, narrowed := true }
def TopGroomingUptoSaid : Prop := topGroomingUptoRow.holds Try.pinned (OpenSpec.upto topGroomingSpec)

/-- 'skiarealaw47.RouteRight', WHERE WHAT IT READS IS OF BULK AT MOST 1048576: true; the input reads as it did. -/
def routeRightUptoRow : OpenClaim := { program := "yticfgecicmgpeaa", sum := "852b17ea689ae308a2bef82540fdabea95b0749dd484e6b2774579a9f6551c98", func := "skiarea/skiarealaw47.RouteRight", spec := "routeRight", unfollowed := true, recurses := true, apart := false, narrowed := true }
def RouteRightUptoSaid : Prop := routeRightUptoRow.holds Try.pinned (OpenSpec.upto routeRightSpec)

/-- 'skiarealaw47.RouteValid', WHERE WHAT IT READS IS OF BULK AT MOST 1048576: true; the input reads as it did. -/
def routeValidUptoRow : OpenClaim := { program := "yticfgecicmgpeaa", sum := "852b17ea689ae308a2bef82540fdabea95b0749dd484e6b2774579a9f6551c98", func := "skiarea/skiarealaw47.RouteValid", spec := "routeValid", unfollowed := true, recurses := true, apart := false, narrowed := true }
def RouteValidUptoSaid : Prop := routeValidUptoRow.holds Try.pinned (OpenSpec.upto routeValidSpec)

/-- 'skiarealaw47.RouteCounts', WHERE WHAT IT READS IS OF BULK AT MOST 1048576: true; the input reads as it did. -/
def routeCountsUptoRow : OpenClaim := { program := "yticfgecicmgpeaa", sum := "852b17ea689ae308a2bef82540fdabea95b0749dd484e6b2774579a9f6551c98", func := "skiarea/skiarealaw47.RouteCounts", spec := "routeCounts", unfollowed := true, recurses := true, apart := false, narrowed := true }
def RouteCountsUptoSaid : Prop := routeCountsUptoRow.holds Try.pinned (OpenSpec.upto routeCountsSpec)

/-- 'skiarealaw47.RouteFinds', WHERE WHAT IT READS IS OF BULK AT MOST 1048576: true; the input reads as it did. -/
def routeFindsUptoRow : OpenClaim := { program := "yticfgecicmgpeaa", sum := "852b17ea689ae308a2bef82540fdabea95b0749dd484e6b2774579a9f6551c98", func := "skiarea/skiarealaw47.RouteFinds", spec := "routeFinds", unfollowed := true, recurses := true, apart := false, narrowed := true }
def RouteFindsUptoSaid : Prop := routeFindsUptoRow.holds Try.pinned (OpenSpec.upto routeFindsSpec)

/-- 'skiarealaw47.RouteLeast', WHERE WHAT IT READS IS OF BULK AT MOST 1048576: true; the input reads as it did. -/
def routeLeastUptoRow : OpenClaim := { program := "yticfgecicmgpeaa", sum := "852b17ea689ae308a2bef82540fdabea95b0749dd484e6b2774579a9f6551c98", func := "skiarea/skiarealaw47.RouteLeast", spec := "routeLeast", unfollowed := true, recurses := true, apart := false, narrowed := true }
def RouteLeastUptoSaid : Prop := routeLeastUptoRow.holds Try.pinned (OpenSpec.upto routeLeastSpec)

/-- 'skiarealaw47.RouteBounds', WHERE WHAT IT READS IS OF BULK AT MOST 1048576: true; the input reads as it did. -/
def routeBoundsUptoRow : OpenClaim := { program := "yticfgecicmgpeaa", sum := "852b17ea689ae308a2bef82540fdabea95b0749dd484e6b2774579a9f6551c98", func := "skiarea/skiarealaw47.RouteBounds", spec := "routeBounds", unfollowed := true, recurses := true, apart := false, narrowed := true }
def RouteBoundsUptoSaid : Prop := routeBoundsUptoRow.holds Try.pinned (OpenSpec.upto routeBoundsSpec)

/-- 'skiarealaw47.RouteLess', WHERE WHAT IT READS IS OF BULK AT MOST 1048576: true; the input reads as it did. -/
def routeLessUptoRow : OpenClaim := { program := "yticfgecicmgpeaa", sum := "852b17ea689ae308a2bef82540fdabea95b0749dd484e6b2774579a9f6551c98", func := "skiarea/skiarealaw47.RouteLess", spec := "routeLess", unfollowed := true, recurses := true, apart := false, narrowed := true }
def RouteLessUptoSaid : Prop := routeLessUptoRow.holds Try.pinned (OpenSpec.upto routeLessSpec)

end Rows
end Go.Proofs.Yticfgecicmgpeaa
