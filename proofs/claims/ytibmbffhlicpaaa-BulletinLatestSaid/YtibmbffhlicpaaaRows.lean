/-
  No cell of these rows narrows 'for every input' (looked for: loops, veiled, ifaces, maps, wideKeys, modest, calm, conditions, laid).
  DERIVED. THE GIVEN ROWS OF THIS SEAT. 6 by the template 'for every input the law returns true; each argument reads behind the call as it read before'; 0 by the template 'total and deterministic' (their statements: YtibmbffhlicpaaaTotals.lean).
  GIVEN WITH THE SEED: the statements are not yours to turn. If you find one false, say at which input.
  Laid BY PROGRAM, IN A SANDBOX (cutbox-rows.mjs): the forced cells as the released guide's own fill.sh prints them over the translation 08406135a4fe4310… (all of the seat's roots in one cut). By AI agents, Wed Nov 11 2026. No macro, syntax, notation, axiom, sorry.
-/
import Derived.Test.YtibmbffhlicpaaaChecked
import GoSem.Claim
import GoSem.ClaimJoined
import GoSem.ClaimMapViews
import Derived.JoinedTies
import Derived.KernelRfl
namespace Go.Proofs.Ytibmbffhlicpaaa
/- THE CELL 'sum', in the pinned program and in every row, IS THE sha256 OF THE DUMP (.gsa) THAT YtibmbffhlicpaaaProg.lean LOADS. Nothing in Lean hashes anything: it is a label: what it is worth is what the hold of that sum in a sandbox is worth. -/
noncomputable def Try.pinned : Pinned := { name := "ytibmbffhlicpaaa", sum := "08406135a4fe4310fdd3d61f477546ff9be67e925b537b33102cf1d0d5304734", checked := Try.checked }
namespace Rows
def none {H : Type} : Left H := { results := [], args := [] }

/-- 'skiarealaw49.BulletinRights': WHATEVER THE INPUT: true; the input reads as it did. -/
def bulletinRightsSpec : ChangeSpec := { name := "bulletinRights", fn := fun _ => fun
  | [d] => { results := [.lit (.bool true)], args := [d] }
  | _ => none }
def bulletinRightsRow : OpenClaim := { program := "ytibmbffhlicpaaa", sum := "08406135a4fe4310fdd3d61f477546ff9be67e925b537b33102cf1d0d5304734", func := "skiarea/skiarealaw49.BulletinRights", spec := "bulletinRights", unfollowed := true, recurses := true, apart := false }
def BulletinRightsSaid : Prop := bulletinRightsRow.holds Try.pinned (OpenSpec.ofChange bulletinRightsSpec)

/-- ITS FALSE NEIGHBOUR: 'it returns false'. Refute it at one input. -/
def bulletinRightsWrong : ChangeSpec := { name := "bulletinRights", fn := fun _ => fun
  | [d] => { results := [.lit (.bool false)], args := [d] }
  | _ => none }
def BulletinRightsWrongFalsely : Prop := bulletinRightsRow.holds Try.pinned (OpenSpec.ofChange bulletinRightsWrong)

/-- 'skiarealaw49.BulletinIssues': WHATEVER THE INPUT: true; the input reads as it did. -/
def bulletinIssuesSpec : ChangeSpec := { name := "bulletinIssues", fn := fun _ => fun
  | [d1, d2] => { results := [.lit (.bool true)], args := [d1, d2] }
  | _ => none }
def bulletinIssuesRow : OpenClaim := { program := "ytibmbffhlicpaaa", sum := "08406135a4fe4310fdd3d61f477546ff9be67e925b537b33102cf1d0d5304734", func := "skiarea/skiarealaw49.BulletinIssues", spec := "bulletinIssues", unfollowed := true, recurses := true, apart := false }
def BulletinIssuesSaid : Prop := bulletinIssuesRow.holds Try.pinned (OpenSpec.ofChange bulletinIssuesSpec)

/-- ITS FALSE NEIGHBOUR: 'it returns false'. Refute it at one input. -/
def bulletinIssuesWrong : ChangeSpec := { name := "bulletinIssues", fn := fun _ => fun
  | [d1, d2] => { results := [.lit (.bool false)], args := [d1, d2] }
  | _ => none }
def BulletinIssuesWrongFalsely : Prop := bulletinIssuesRow.holds Try.pinned (OpenSpec.ofChange bulletinIssuesWrong)

/-- 'skiarealaw49.BulletinLevels': WHATEVER THE INPUT: true; the input reads as it did. -/
def bulletinLevelsSpec : ChangeSpec := { name := "bulletinLevels", fn := fun _ => fun
  | [d1, d2] => { results := [.lit (.bool true)], args := [d1, d2] }
  | _ => none }
def bulletinLevelsRow : OpenClaim := { program := "ytibmbffhlicpaaa", sum := "08406135a4fe4310fdd3d61f477546ff9be67e925b537b33102cf1d0d5304734", func := "skiarea/skiarealaw49.BulletinLevels", spec := "bulletinLevels", unfollowed := true, recurses := true, apart := false }
def BulletinLevelsSaid : Prop := bulletinLevelsRow.holds Try.pinned (OpenSpec.ofChange bulletinLevelsSpec)

/-- ITS FALSE NEIGHBOUR: 'it returns false'. Refute it at one input. -/
def bulletinLevelsWrong : ChangeSpec := { name := "bulletinLevels", fn := fun _ => fun
  | [d1, d2] => { results := [.lit (.bool false)], args := [d1, d2] }
  | _ => none }
def BulletinLevelsWrongFalsely : Prop := bulletinLevelsRow.holds Try.pinned (OpenSpec.ofChange bulletinLevelsWrong)

/-- 'skiarealaw49.BulletinLatest': WHATEVER THE INPUT: true; the input reads as it did. -/
def bulletinLatestSpec : ChangeSpec := { name := "bulletinLatest", fn := fun _ => fun
  | [d1, d2, d3] => { results := [.lit (.bool true)], args := [d1, d2, d3] }
  | _ => none }
def bulletinLatestRow : OpenClaim := { program := "ytibmbffhlicpaaa", sum := "08406135a4fe4310fdd3d61f477546ff9be67e925b537b33102cf1d0d5304734", func := "skiarea/skiarealaw49.BulletinLatest", spec := "bulletinLatest", unfollowed := true, recurses := true, apart := false }
def BulletinLatestSaid : Prop := bulletinLatestRow.holds Try.pinned (OpenSpec.ofChange bulletinLatestSpec)

/-- ITS FALSE NEIGHBOUR: 'it returns false'. Refute it at one input. -/
def bulletinLatestWrong : ChangeSpec := { name := "bulletinLatest", fn := fun _ => fun
  | [d1, d2, d3] => { results := [.lit (.bool false)], args := [d1, d2, d3] }
  | _ => none }
def BulletinLatestWrongFalsely : Prop := bulletinLatestRow.holds Try.pinned (OpenSpec.ofChange bulletinLatestWrong)

/-- 'skiarealaw49.BulletinBounds': WHATEVER THE INPUT: true; the input reads as it did. -/
def bulletinBoundsSpec : ChangeSpec := { name := "bulletinBounds", fn := fun _ => fun
  | [d1, d2, d3] => { results := [.lit (.bool true)], args := [d1, d2, d3] }
  | _ => none }
def bulletinBoundsRow : OpenClaim := { program := "ytibmbffhlicpaaa", sum := "08406135a4fe4310fdd3d61f477546ff9be67e925b537b33102cf1d0d5304734", func := "skiarea/skiarealaw49.BulletinBounds", spec := "bulletinBounds", unfollowed := true, recurses := true, apart := false }
def BulletinBoundsSaid : Prop := bulletinBoundsRow.holds Try.pinned (OpenSpec.ofChange bulletinBoundsSpec)

/-- ITS FALSE NEIGHBOUR: 'it returns false'. Refute it at one input. -/
def bulletinBoundsWrong : ChangeSpec := { name := "bulletinBounds", fn := fun _ => fun
  | [d1, d2, d3] => { results := [.lit (.bool false)], args := [d1, d2, d3] }
  | _ => none }
def BulletinBoundsWrongFalsely : Prop := bulletinBoundsRow.holds Try.pinned (OpenSpec.ofChange bulletinBoundsWrong)

/-- 'skiarealaw49.BulletinIssued': WHATEVER THE INPUT: true; the input reads as it did. -/
def bulletinIssuedSpec : ChangeSpec := { name := "bulletinIssued", fn := fun _ => fun
  | [d1, d2, d3] => { results := [.lit (.bool true)], args := [d1, d2, d3] }
  | _ => none }
def bulletinIssuedRow : OpenClaim := { program := "ytibmbffhlicpaaa", sum := "08406135a4fe4310fdd3d61f477546ff9be67e925b537b33102cf1d0d5304734", func := "skiarea/skiarealaw49.BulletinIssued", spec := "bulletinIssued", unfollowed := true, recurses := true, apart := false }
def BulletinIssuedSaid : Prop := bulletinIssuedRow.holds Try.pinned (OpenSpec.ofChange bulletinIssuedSpec)

/-- ITS FALSE NEIGHBOUR: 'it returns false'. Refute it at one input. -/
def bulletinIssuedWrong : ChangeSpec := { name := "bulletinIssued", fn := fun _ => fun
  | [d1, d2, d3] => { results := [.lit (.bool false)], args := [d1, d2, d3] }
  | _ => none }
def BulletinIssuedWrongFalsely : Prop := bulletinIssuedRow.holds Try.pinned (OpenSpec.ofChange bulletinIssuedWrong)

/- THE SECOND FORM. 'bulk': how many values and letters a reading holds, each counted each time it is reached (what is shared counts as often as it is met; a slice's spare places count too). A statement '..UptoSaid' is the law's where the arguments, and the package variables that the reading takes, are together of bulk at most 1048576: NARROWER than '..Said'. Prove '..Said' where nothing that the law and all that it calls make is longer than what came in: it says more and counts as full. Else prove '..UptoSaid'. A law counts once. -/
mutual
def uptoBulk {H : Type} : DataW H → Nat
  | .lit (.string bytes) => bytes.length + 1
  | .lit _ => 1
  | .nil => 1
  | .ptr d => uptoBulk d + 1
  | .slice elems spare => uptoBulkAll elems + uptoBulkAll spare + 1
  | .agg parts => uptoBulkAll parts + 1
  | .iface _ d => uptoBulk d + 1
  | .map entries => uptoBulkEntries entries + 1
  | .held _ => 1
def uptoBulkAll {H : Type} : List (DataW H) → Nat
  | [] => 0
  | d :: r => uptoBulk d + uptoBulkAll r
def uptoBulkEntries {H : Type} : List (Lit × DataW H) → Nat
  | [] => 0
  | x :: r => uptoBulkEntry x + uptoBulkEntries r
def uptoBulkEntry {H : Type} : Lit × DataW H → Nat
  | (.string bytes, d) => bytes.length + uptoBulk d + 1
  | (_, d) => uptoBulk d + 1
 end
def uptoSmall : (H : Type) → List (DataW H) → Bool := fun _ ds => decide (uptoBulkAll ds ≤ 1048576)
def OpenSpec.upto (s : _root_.Go.ChangeSpec) : _root_.Go.OpenSpec := { _root_.Go.OpenSpec.ofChange s with cond := some uptoSmall }

/-- 'skiarealaw49.BulletinRights', WHERE WHAT IT READS IS OF BULK AT MOST 1048576: true; the input reads as it did. -/
def bulletinRightsUptoRow : OpenClaim := { program := "ytibmbffhlicpaaa", sum := "08406135a4fe4310fdd3d61f477546ff9be67e925b537b33102cf1d0d5304734", func := "skiarea/skiarealaw49.BulletinRights", spec := "bulletinRights", unfollowed := true, recurses := true, apart := false, narrowed := true }
def BulletinRightsUptoSaid : Prop := bulletinRightsUptoRow.holds Try.pinned (OpenSpec.upto bulletinRightsSpec)

/-- 'skiarealaw49.BulletinIssues', WHERE WHAT IT READS IS OF BULK AT MOST 1048576: true; the input reads as it did. -/
def bulletinIssuesUptoRow : OpenClaim := { program := "ytibmbffhlicpaaa", sum := "08406135a4fe4310fdd3d61f477546ff9be67e925b537b33102cf1d0d5304734", func := "skiarea/skiarealaw49.BulletinIssues", spec := "bulletinIssues", unfollowed := true, recurses := true, apart := false, narrowed := true }
def BulletinIssuesUptoSaid : Prop := bulletinIssuesUptoRow.holds Try.pinned (OpenSpec.upto bulletinIssuesSpec)

/-- 'skiarealaw49.BulletinLevels', WHERE WHAT IT READS IS OF BULK AT MOST 1048576: true; the input reads as it did. -/
def bulletinLevelsUptoRow : OpenClaim := { program := "ytibmbffhlicpaaa", sum := "08406135a4fe4310fdd3d61f477546ff9be67e925b537b33102cf1d0d5304734", func := "skiarea/skiarealaw49.BulletinLevels", spec := "bulletinLevels", unfollowed := true, recurses := true, apart := false, narrowed := true }
def BulletinLevelsUptoSaid : Prop := bulletinLevelsUptoRow.holds Try.pinned (OpenSpec.upto bulletinLevelsSpec)

/-- 'skiarealaw49.BulletinLatest', WHERE WHAT IT READS IS OF BULK AT MOST 1048576: true; the input reads as it did. -/
def bulletinLatestUptoRow : OpenClaim := { program := "ytibmbffhlicpaaa", sum := "08406135a4fe4310fdd3d61f477546ff9be67e925b537b33102cf1d0d5304734", func := "skiarea/skiarealaw49.BulletinLatest", spec := "bulletinLatest", unfollowed := true, recurses := true, apart := false, narrowed := true }
def BulletinLatestUptoSaid : Prop := bulletinLatestUptoRow.holds Try.pinned (OpenSpec.upto bulletinLatestSpec)

/-- 'skiarealaw49.BulletinBounds', WHERE WHAT IT READS IS OF BULK AT MOST 1048576: true; the input reads as it did. -/
def bulletinBoundsUptoRow : OpenClaim := { program := "ytibmbffhlicpaaa", sum := "08406135a4fe4310fdd3d61f477546ff9be67e925b537b33102cf1d0d5304734", func := "skiarea/skiarealaw49.BulletinBounds", spec := "bulletinBounds", unfollowed := true, recurses := true, apart := false, narrowed := true }
def BulletinBoundsUptoSaid : Prop := bulletinBoundsUptoRow.holds Try.pinned (OpenSpec.upto bulletinBoundsSpec)

/-- 'skiarealaw49.BulletinIssued', WHERE WHAT IT READS IS OF BULK AT MOST 1048576: true; the input reads as it did. -/
def bulletinIssuedUptoRow : OpenClaim := { program := "ytibmbffhlicpaaa", sum := "08406135a4fe4310fdd3d61f477546ff9be67e925b537b33102cf1d0d5304734", func := "skiarea/skiarealaw49.BulletinIssued", spec := "bulletinIssued", unfollowed := true, recurses := true, apart := false, narrowed := true }
def BulletinIssuedUptoSaid : Prop := bulletinIssuedUptoRow.holds Try.pinned (OpenSpec.upto bulletinIssuedSpec)

end Rows
end Go.Proofs.Ytibmbffhlicpaaa
