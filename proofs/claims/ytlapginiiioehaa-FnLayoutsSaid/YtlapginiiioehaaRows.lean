/-
  No cell of these rows narrows 'for every input' (looked for: loops, veiled, ifaces, maps, wideKeys, modest, calm, conditions, laid).
  DERIVED. THE GIVEN ROWS OF THIS SEAT. 6 by the template 'for every input the law returns true; each argument reads behind the call as it read before'; 0 by the template 'total and deterministic' (their statements: YtlapginiiioehaaTotals.lean).
  GIVEN WITH THE SEED: the statements are not yours to turn. If you find one false, say at which input.
  Laid BY PROGRAM, IN A SANDBOX (cutbox-rows.mjs): the forced cells as the released guide's own fill.sh prints them over the translation 604933085745425e… (all of the seat's roots in one cut). By AI agents, Wed Nov 11 2026. No macro, syntax, notation, axiom, sorry.
-/
import Derived.Test.YtlapginiiioehaaChecked
import GoSem.Claim
import GoSem.ClaimJoined
import GoSem.ClaimMapViews
import Derived.JoinedTies
import Derived.KernelRfl
namespace Go.Proofs.Ytlapginiiioehaa
/- THE CELL 'sum', in the pinned program and in every row, IS THE sha256 OF THE DUMP (.gsa) THAT YtlapginiiioehaaProg.lean LOADS. Nothing in Lean hashes anything: it is a label: what it is worth is what the hold of that sum in a sandbox is worth. -/
noncomputable def Try.pinned : Pinned := { name := "ytlapginiiioehaa", sum := "604933085745425ef6e7869e2ab863192a95d1f83d3e0d959bebfd00d01df561", checked := Try.checked }
namespace Rows
def none {H : Type} : Left H := { results := [], args := [] }

/-- 'laws.FnBeams': WHATEVER THE INPUT: true; the input reads as it did. -/
def fnBeamsSpec : ChangeSpec := { name := "fnBeams", fn := fun _ => fun
  | [d] => { results := [.lit (.bool true)], args := [d] }
  | _ => none }
def fnBeamsRow : OpenClaim := { program := "ytlapginiiioehaa", sum := "604933085745425ef6e7869e2ab863192a95d1f83d3e0d959bebfd00d01df561", func := "loop.example/g03313/laws.FnBeams", spec := "fnBeams", apart := false }
def FnBeamsSaid : Prop := fnBeamsRow.holds Try.pinned (OpenSpec.ofChange fnBeamsSpec)

/-- ITS FALSE NEIGHBOUR: 'it returns false'. Refute it at one input. -/
def fnBeamsWrong : ChangeSpec := { name := "fnBeams", fn := fun _ => fun
  | [d] => { results := [.lit (.bool false)], args := [d] }
  | _ => none }
def FnBeamsWrongFalsely : Prop := fnBeamsRow.holds Try.pinned (OpenSpec.ofChange fnBeamsWrong)

/-- 'laws.FnColorIdentity': WHATEVER THE INPUT: true; the input reads as it did. -/
def fnColorIdentitySpec : ChangeSpec := { name := "fnColorIdentity", fn := fun _ => fun
  | [d] => { results := [.lit (.bool true)], args := [d] }
  | _ => none }
def fnColorIdentityRow : OpenClaim := { program := "ytlapginiiioehaa", sum := "604933085745425ef6e7869e2ab863192a95d1f83d3e0d959bebfd00d01df561", func := "loop.example/g03313/laws.FnColorIdentity", spec := "fnColorIdentity", apart := false }
def FnColorIdentitySaid : Prop := fnColorIdentityRow.holds Try.pinned (OpenSpec.ofChange fnColorIdentitySpec)

/-- ITS FALSE NEIGHBOUR: 'it returns false'. Refute it at one input. -/
def fnColorIdentityWrong : ChangeSpec := { name := "fnColorIdentity", fn := fun _ => fun
  | [d] => { results := [.lit (.bool false)], args := [d] }
  | _ => none }
def FnColorIdentityWrongFalsely : Prop := fnColorIdentityRow.holds Try.pinned (OpenSpec.ofChange fnColorIdentityWrong)

/-- 'laws.FnExactColorImage': WHATEVER THE INPUT: true; the input reads as it did. -/
def fnExactColorImageSpec : ChangeSpec := { name := "fnExactColorImage", fn := fun _ => fun
  | [d1, d2] => { results := [.lit (.bool true)], args := [d1, d2] }
  | _ => none }
def fnExactColorImageRow : OpenClaim := { program := "ytlapginiiioehaa", sum := "604933085745425ef6e7869e2ab863192a95d1f83d3e0d959bebfd00d01df561", func := "loop.example/g03313/laws.FnExactColorImage", spec := "fnExactColorImage", apart := false }
def FnExactColorImageSaid : Prop := fnExactColorImageRow.holds Try.pinned (OpenSpec.ofChange fnExactColorImageSpec)

/-- ITS FALSE NEIGHBOUR: 'it returns false'. Refute it at one input. -/
def fnExactColorImageWrong : ChangeSpec := { name := "fnExactColorImage", fn := fun _ => fun
  | [d1, d2] => { results := [.lit (.bool false)], args := [d1, d2] }
  | _ => none }
def FnExactColorImageWrongFalsely : Prop := fnExactColorImageRow.holds Try.pinned (OpenSpec.ofChange fnExactColorImageWrong)

/-- 'laws.FnLayouts': WHATEVER THE INPUT: true; the input reads as it did. -/
def fnLayoutsSpec : ChangeSpec := { name := "fnLayouts", fn := fun _ => fun
  | [d] => { results := [.lit (.bool true)], args := [d] }
  | _ => none }
def fnLayoutsRow : OpenClaim := { program := "ytlapginiiioehaa", sum := "604933085745425ef6e7869e2ab863192a95d1f83d3e0d959bebfd00d01df561", func := "loop.example/g03313/laws.FnLayouts", spec := "fnLayouts", unfollowed := true, recurses := true, apart := false }
def FnLayoutsSaid : Prop := fnLayoutsRow.holds Try.pinned (OpenSpec.ofChange fnLayoutsSpec)

/-- ITS FALSE NEIGHBOUR: 'it returns false'. Refute it at one input. -/
def fnLayoutsWrong : ChangeSpec := { name := "fnLayouts", fn := fun _ => fun
  | [d] => { results := [.lit (.bool false)], args := [d] }
  | _ => none }
def FnLayoutsWrongFalsely : Prop := fnLayoutsRow.holds Try.pinned (OpenSpec.ofChange fnLayoutsWrong)

/-- 'laws.FnExactLoadImage': WHATEVER THE INPUT: true; the input reads as it did. -/
def fnExactLoadImageSpec : ChangeSpec := { name := "fnExactLoadImage", fn := fun _ => fun
  | [d1, d2, d3, d4] => { results := [.lit (.bool true)], args := [d1, d2, d3, d4] }
  | _ => none }
def fnExactLoadImageRow : OpenClaim := { program := "ytlapginiiioehaa", sum := "604933085745425ef6e7869e2ab863192a95d1f83d3e0d959bebfd00d01df561", func := "loop.example/g03313/laws.FnExactLoadImage", spec := "fnExactLoadImage", unfollowed := true, recurses := true, apart := false }
def FnExactLoadImageSaid : Prop := fnExactLoadImageRow.holds Try.pinned (OpenSpec.ofChange fnExactLoadImageSpec)

/-- ITS FALSE NEIGHBOUR: 'it returns false'. Refute it at one input. -/
def fnExactLoadImageWrong : ChangeSpec := { name := "fnExactLoadImage", fn := fun _ => fun
  | [d1, d2, d3, d4] => { results := [.lit (.bool false)], args := [d1, d2, d3, d4] }
  | _ => none }
def FnExactLoadImageWrongFalsely : Prop := fnExactLoadImageRow.holds Try.pinned (OpenSpec.ofChange fnExactLoadImageWrong)

/-- 'laws.FnExactIsOpaque': WHATEVER THE INPUT: true; the input reads as it did. -/
def fnExactIsOpaqueSpec : ChangeSpec := { name := "fnExactIsOpaque", fn := fun _ => fun
  | [d] => { results := [.lit (.bool true)], args := [d] }
  | _ => none }
def fnExactIsOpaqueRow : OpenClaim := { program := "ytlapginiiioehaa", sum := "604933085745425ef6e7869e2ab863192a95d1f83d3e0d959bebfd00d01df561", func := "loop.example/g03313/laws.FnExactIsOpaque", spec := "fnExactIsOpaque", unfollowed := true, recurses := true, apart := false }
def FnExactIsOpaqueSaid : Prop := fnExactIsOpaqueRow.holds Try.pinned (OpenSpec.ofChange fnExactIsOpaqueSpec)

/-- ITS FALSE NEIGHBOUR: 'it returns false'. Refute it at one input. -/
def fnExactIsOpaqueWrong : ChangeSpec := { name := "fnExactIsOpaque", fn := fun _ => fun
  | [d] => { results := [.lit (.bool false)], args := [d] }
  | _ => none }
def FnExactIsOpaqueWrongFalsely : Prop := fnExactIsOpaqueRow.holds Try.pinned (OpenSpec.ofChange fnExactIsOpaqueWrong)

/- THE SECOND FORM. 'bulk': how many values and letters a reading holds, each counted each time it is reached (what is shared counts as often as it is met; a slice's spare places count too). A statement '..UptoSaid' is the law's where the arguments, and the package variables that the reading takes, are together of bulk at most 1048576: NARROWER than '..Said'. Prove '..Said' where nothing that the law and all that it calls make is longer than what came in: it says more and counts as full. Else prove '..UptoSaid'. A law counts once. -/
mutual
def uptoBulk {H : Type} : DataW H → Nat
  | .lit (.string bytes) => bytes.length + 1
  | .lit _ => 1
  | .nil => 1
  | .ptr d => uptoBulk d + 1
  | .slice elems spare => uptoBulkAll elems + uptoBulkAll spare + 1
  | .agg parts => uptoBulkAll parts + 1
  | .iface _ d => uptoBulk d + 1
  | .map entries => uptoBulkEntries entries + 1
  | .held _ => 1
def uptoBulkAll {H : Type} : List (DataW H) → Nat
  | [] => 0
  | d :: r => uptoBulk d + uptoBulkAll r
def uptoBulkEntries {H : Type} : List (Lit × DataW H) → Nat
  | [] => 0
  | x :: r => uptoBulkEntry x + uptoBulkEntries r
def uptoBulkEntry {H : Type} : Lit × DataW H → Nat
  | (.string bytes, d) => bytes.length + uptoBulk d + 1
  | (_, d) => uptoBulk d + 1
 end
def uptoSmall : (H : Type) → List (DataW H) → Bool := fun _ ds => decide (uptoBulkAll ds ≤ 1048576)
def OpenSpec.upto (s : _root_.Go.ChangeSpec) : _root_.Go.OpenSpec := { _root_.Go.OpenSpec.ofChange s with cond := some uptoSmall }

/-- 'laws.FnBeams', WHERE WHAT IT READS IS OF BULK AT MOST 1048576: true; the input reads as it did. -/
def fnBeamsUptoRow : OpenClaim := { program := "ytlapginiiioehaa", sum := "604933085745425ef6e7869e2ab863192a95d1f83d3e0d959bebfd00d01df561", func := "loop.example/g03313/laws.FnBeams", spec := "fnBeams", apart := false, narrowed := true }
def FnBeamsUptoSaid : Prop := fnBeamsUptoRow.holds Try.pinned (OpenSpec.upto fnBeamsSpec)

/-- 'laws.FnColorIdentity', WHERE WHAT IT READS IS OF BULK AT MOST 1048576: true; the input reads as it did. -/
def fnColorIdentityUptoRow : OpenClaim := { program := "ytlapginiiioehaa", sum := "604933085745425ef6e7869e2ab863192a95d1f83d3e0d959bebfd00d01df561", func := "loop.example/g03313/laws.FnColorIdentity", spec := "fnColorIdentity", apart := false, narrowed := true }
def FnColorIdentityUptoSaid : Prop := fnColorIdentityUptoRow.holds Try.pinned (OpenSpec.upto fnColorIdentitySpec)

/-- 'laws.FnExactColorImage', WHERE WHAT IT READS IS OF BULK AT MOST 1048576: true; the input reads as it did. -/
def fnExactColorImageUptoRow : OpenClaim := { program := "ytlapginiiioehaa", sum := "604933085745425ef6e7869e2ab863192a95d1f83d3e0d959bebfd00d01df561", func := "loop.example/g03313/laws.FnExactColorImage", spec := "fnExactColorImage", apart := false, narrowed := true }
def FnExactColorImageUptoSaid : Prop := fnExactColorImageUptoRow.holds Try.pinned (OpenSpec.upto fnExactColorImageSpec)

/-- 'laws.FnLayouts', WHERE WHAT IT READS IS OF BULK AT MOST 1048576: true; the input reads as it did. -/
def fnLayoutsUptoRow : OpenClaim := { program := "ytlapginiiioehaa", sum := "604933085745425ef6e7869e2ab863192a95d1f83d3e0d959bebfd00d01df561", func := "loop.example/g03313/laws.FnLayouts", spec := "fnLayouts", unfollowed := true, recurses := true, apart := false, narrowed := true }
def FnLayoutsUptoSaid : Prop := fnLayoutsUptoRow.holds Try.pinned (OpenSpec.upto fnLayoutsSpec)

/-- 'laws.FnExactLoadImage', WHERE WHAT IT READS IS OF BULK AT MOST 1048576: true; the input reads as it did. -/
def fnExactLoadImageUptoRow : OpenClaim := { program := "ytlapginiiioehaa", sum := "604933085745425ef6e7869e2ab863192a95d1f83d3e0d959bebfd00d01df561", func := "loop.example/g03313/laws.FnExactLoadImage", spec := "fnExactLoadImage", unfollowed := true, recurses := true, apart := false, narrowed := true }
def FnExactLoadImageUptoSaid : Prop := fnExactLoadImageUptoRow.holds Try.pinned (OpenSpec.upto fnExactLoadImageSpec)

/-- 'laws.FnExactIsOpaque', WHERE WHAT IT READS IS OF BULK AT MOST 1048576: true; the input reads as it did. -/
def fnExactIsOpaqueUptoRow : OpenClaim := { program := "ytlapginiiioehaa", sum := "604933085745425ef6e7869e2ab863192a95d1f83d3e0d959bebfd00d01df561", func := "loop.example/g03313/laws.FnExactIsOpaque", spec := "fnExactIsOpaque", unfollowed := true, recurses := true, apart := false, narrowed := true }
def FnExactIsOpaqueUptoSaid : Prop := fnExactIsOpaqueUptoRow.holds Try.pinned (OpenSpec.upto fnExactIsOpaqueSpec)

end Rows
end Go.Proofs.Ytlapginiiioehaa
