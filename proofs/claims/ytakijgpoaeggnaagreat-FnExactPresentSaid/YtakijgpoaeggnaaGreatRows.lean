/-
  No cell of these rows narrows 'for every input' (looked for: loops, veiled, ifaces, maps, wideKeys, modest, calm, conditions, laid).
  DERIVED. THE GIVEN ROWS OF THIS SEAT. 4 by the template 'for every input the law returns true; each argument reads behind the call as it read before'; 0 by the template 'total and deterministic' (their statements: YtakijgpoaeggnaaGreatTotals.lean).
  GIVEN WITH THE SEED: the statements are not yours to turn. If you find one false, say at which input.
  Laid BY PROGRAM, IN A SANDBOX (cutbox-rows.mjs): the forced cells as the released guide's own fill.sh prints them over the translation 9fdc53252a7d9038… (all of the seat's roots in one cut). By AI agents, Wed Nov 11 2026. No macro, syntax, notation, axiom, sorry.
-/
import Derived.Test.YtakijgpoaeggnaaGreatChecked
import GoSem.Claim
import GoSem.ClaimJoined
import GoSem.ClaimMapViews
import Derived.JoinedTies
import Derived.KernelRfl
namespace Go.Proofs.YtakijgpoaeggnaaGreat
/- THE CELL 'sum', in the pinned program and in every row, IS THE sha256 OF THE DUMP (.gsa) THAT YtakijgpoaeggnaaGreatProg.lean LOADS. Nothing in Lean hashes anything: it is a label: what it is worth is what the hold of that sum in a sandbox is worth. -/
noncomputable def Tryz.pinned : Pinned := { name := "ytakijgpoaeggnaagreat", sum := "9fdc53252a7d9038ee5a97f7fe544c9ebda206f526c6a9d03d05173b50b4a42d", checked := Tryz.checked }
namespace Rows
def none {H : Type} : Left H := { results := [], args := [] }

/-- 'laws.FnAged': WHATEVER THE INPUT: true; the input reads as it did. -/
def fnAgedSpec : ChangeSpec := { name := "fnAged", fn := fun _ => fun
  | [d] => { results := [.lit (.bool true)], args := [d] }
  | _ => none }
def fnAgedRow : OpenClaim := { program := "ytakijgpoaeggnaagreat", sum := "9fdc53252a7d9038ee5a97f7fe544c9ebda206f526c6a9d03d05173b50b4a42d", func := "loop.example/g03313/laws.FnAged", spec := "fnAged", inPlace := ["slices.overlaps[loop.example/g03313/impl.Region]"], unfollowed := true, recurses := true, apart := false }
def FnAgedSaid : Prop := fnAgedRow.holds Tryz.pinned (OpenSpec.ofChange fnAgedSpec)

/-- ITS FALSE NEIGHBOUR: 'it returns false'. Refute it at one input. -/
def fnAgedWrong : ChangeSpec := { name := "fnAged", fn := fun _ => fun
  | [d] => { results := [.lit (.bool false)], args := [d] }
  | _ => none }
def FnAgedWrongFalsely : Prop := fnAgedRow.holds Tryz.pinned (OpenSpec.ofChange fnAgedWrong)

/-- 'laws.FnAllShown': WHATEVER THE INPUT: true; the input reads as it did. -/
def fnAllShownSpec : ChangeSpec := { name := "fnAllShown", fn := fun _ => fun
  | [d] => { results := [.lit (.bool true)], args := [d] }
  | _ => none }
def fnAllShownRow : OpenClaim := { program := "ytakijgpoaeggnaagreat", sum := "9fdc53252a7d9038ee5a97f7fe544c9ebda206f526c6a9d03d05173b50b4a42d", func := "loop.example/g03313/laws.FnAllShown", spec := "fnAllShown", inPlace := ["slices.overlaps[loop.example/g03313/impl.Region]"], unfollowed := true, recurses := true, apart := false }
def FnAllShownSaid : Prop := fnAllShownRow.holds Tryz.pinned (OpenSpec.ofChange fnAllShownSpec)

/-- ITS FALSE NEIGHBOUR: 'it returns false'. Refute it at one input. -/
def fnAllShownWrong : ChangeSpec := { name := "fnAllShown", fn := fun _ => fun
  | [d] => { results := [.lit (.bool false)], args := [d] }
  | _ => none }
def FnAllShownWrongFalsely : Prop := fnAllShownRow.holds Tryz.pinned (OpenSpec.ofChange fnAllShownWrong)

/-- 'laws.FnExactStaleRegion': WHATEVER THE INPUT: true; the input reads as it did. -/
def fnExactStaleRegionSpec : ChangeSpec := { name := "fnExactStaleRegion", fn := fun _ => fun
  | [d1, d2, d3] => { results := [.lit (.bool true)], args := [d1, d2, d3] }
  | _ => none }
def fnExactStaleRegionRow : OpenClaim := { program := "ytakijgpoaeggnaagreat", sum := "9fdc53252a7d9038ee5a97f7fe544c9ebda206f526c6a9d03d05173b50b4a42d", func := "loop.example/g03313/laws.FnExactStaleRegion", spec := "fnExactStaleRegion", unfollowed := true, recurses := true, apart := false }
def FnExactStaleRegionSaid : Prop := fnExactStaleRegionRow.holds Tryz.pinned (OpenSpec.ofChange fnExactStaleRegionSpec)

/-- ITS FALSE NEIGHBOUR: 'it returns false'. Refute it at one input. -/
def fnExactStaleRegionWrong : ChangeSpec := { name := "fnExactStaleRegion", fn := fun _ => fun
  | [d1, d2, d3] => { results := [.lit (.bool false)], args := [d1, d2, d3] }
  | _ => none }
def FnExactStaleRegionWrongFalsely : Prop := fnExactStaleRegionRow.holds Tryz.pinned (OpenSpec.ofChange fnExactStaleRegionWrong)

/-- 'laws.FnExactPresent': WHATEVER THE INPUT: true; the input reads as it did. -/
def fnExactPresentSpec : ChangeSpec := { name := "fnExactPresent", fn := fun _ => fun
  | [d1, d2] => { results := [.lit (.bool true)], args := [d1, d2] }
  | _ => none }
def fnExactPresentRow : OpenClaim := { program := "ytakijgpoaeggnaagreat", sum := "9fdc53252a7d9038ee5a97f7fe544c9ebda206f526c6a9d03d05173b50b4a42d", func := "loop.example/g03313/laws.FnExactPresent", spec := "fnExactPresent", inPlace := ["slices.overlaps[loop.example/g03313/impl.Region]"], unfollowed := true, recurses := true, apart := false }
def FnExactPresentSaid : Prop := fnExactPresentRow.holds Tryz.pinned (OpenSpec.ofChange fnExactPresentSpec)

/-- ITS FALSE NEIGHBOUR: 'it returns false'. Refute it at one input. -/
def fnExactPresentWrong : ChangeSpec := { name := "fnExactPresent", fn := fun _ => fun
  | [d1, d2] => { results := [.lit (.bool false)], args := [d1, d2] }
  | _ => none }
def FnExactPresentWrongFalsely : Prop := fnExactPresentRow.holds Tryz.pinned (OpenSpec.ofChange fnExactPresentWrong)

/- THE SECOND FORM. 'bulk': how many values and letters a reading holds, each counted each time it is reached (what is shared counts as often as it is met; a slice's spare places count too). A statement '..UptoSaid' is the law's where the arguments, and the package variables that the reading takes, are together of bulk at most 1048576: NARROWER than '..Said'. Prove '..Said' where nothing that the law and all that it calls make is longer than what came in: it says more and counts as full. Else prove '..UptoSaid'. A law counts once. -/
mutual
def uptoBulk {H : Type} : DataW H → Nat
  | .lit (.string bytes) => bytes.length + 1
  | .lit _ => 1
  | .nil => 1
  | .ptr d => uptoBulk d + 1
  | .slice elems spare => uptoBulkAll elems + uptoBulkAll spare + 1
  | .agg parts => uptoBulkAll parts + 1
  | .iface _ d => uptoBulk d + 1
  | .map entries => uptoBulkEntries entries + 1
  | .held _ => 1
def uptoBulkAll {H : Type} : List (DataW H) → Nat
  | [] => 0
  | d :: r => uptoBulk d + uptoBulkAll r
def uptoBulkEntries {H : Type} : List (Lit × DataW H) → Nat
  | [] => 0
  | x :: r => uptoBulkEntry x + uptoBulkEntries r
def uptoBulkEntry {H : Type} : Lit × DataW H → Nat
  | (.string bytes, d) => bytes.length + uptoBulk d + 1
  | (_, d) => uptoBulk d + 1
 end
def uptoSmall : (H : Type) → List (DataW H) → Bool := fun _ ds => decide (uptoBulkAll ds ≤ 1048576)
def OpenSpec.upto (s : _root_.Go.ChangeSpec) : _root_.Go.OpenSpec := { _root_.Go.OpenSpec.ofChange s with cond := some uptoSmall }

/-- 'laws.FnAged', WHERE WHAT IT READS IS OF BULK AT MOST 1048576: true; the input reads as it did. -/
def fnAgedUptoRow : OpenClaim := { program := "ytakijgpoaeggnaagreat", sum := "9fdc53252a7d9038ee5a97f7fe544c9ebda206f526c6a9d03d05173b50b4a42d", func := "loop.example/g03313/laws.FnAged", spec := "fnAged", inPlace := ["slices.overlaps[loop.example/g03313/impl.Region]"], unfollowed := true, recurses := true, apart := false, narrowed := true }
def FnAgedUptoSaid : Prop := fnAgedUptoRow.holds Tryz.pinned (OpenSpec.upto fnAgedSpec)

/-- 'laws.FnAllShown', WHERE WHAT IT READS IS OF BULK AT MOST 1048576: true; the input reads as it did. -/
def fnAllShownUptoRow : OpenClaim := { program := "ytakijgpoaeggnaagreat", sum := "9fdc53252a7d9038ee5a97f7fe544c9ebda206f526c6a9d03d05173b50b4a42d", func := "loop.example/g03313/laws.FnAllShown", spec := "fnAllShown", inPlace := ["slices.overlaps[loop.example/g03313/impl.Region]"], unfollowed := true, recurses := true, apart := false, narrowed := true }
def FnAllShownUptoSaid : Prop := fnAllShownUptoRow.holds Tryz.pinned (OpenSpec.upto fnAllShownSpec)

/-- 'laws.FnExactStaleRegion', WHERE WHAT IT READS IS OF BULK AT MOST 1048576: true; the input reads as it did. -/
def fnExactStaleRegionUptoRow : OpenClaim := { program := "ytakijgpoaeggnaagreat", sum := "9fdc53252a7d9038ee5a97f7fe544c9ebda206f526c6a9d03d05173b50b4a42d", func := "loop.example/g03313/laws.FnExactStaleRegion", spec := "fnExactStaleRegion", unfollowed := true, recurses := true, apart := false, narrowed := true }
def FnExactStaleRegionUptoSaid : Prop := fnExactStaleRegionUptoRow.holds Tryz.pinned (OpenSpec.upto fnExactStaleRegionSpec)

/-- 'laws.FnExactPresent', WHERE WHAT IT READS IS OF BULK AT MOST 1048576: true; the input reads as it did. -/
def fnExactPresentUptoRow : OpenClaim := { program := "ytakijgpoaeggnaagreat", sum := "9fdc53252a7d9038ee5a97f7fe544c9ebda206f526c6a9d03d05173b50b4a42d", func := "loop.example/g03313/laws.FnExactPresent", spec := "fnExactPresent", inPlace := ["slices.overlaps[loop.example/g03313/impl.Region]"], unfollowed := true, recurses := true, apart := false, narrowed := true }
def FnExactPresentUptoSaid : Prop := fnExactPresentUptoRow.holds Tryz.pinned (OpenSpec.upto fnExactPresentSpec)

end Rows
end Go.Proofs.YtakijgpoaeggnaaGreat
