/-
  No cell of these rows narrows 'for every input' (looked for: loops, veiled, ifaces, maps, wideKeys, modest, calm, conditions, laid).
  DERIVED. THE GIVEN ROWS OF THIS SEAT. 7 by the template 'for every input the law returns true; each argument reads behind the call as it read before'; 0 by the template 'total and deterministic' (their statements: YtpcammhmgleonaaTotals.lean).
  GIVEN WITH THE SEED: the statements are not yours to turn. If you find one false, say at which input.
  Laid BY PROGRAM, IN A SANDBOX (cutbox-rows.mjs): the forced cells as the released guide's own fill.sh prints them over the translation 344b2c55282e5f06… (all of the seat's roots in one cut). By AI agents, Wed Nov 11 2026. No macro, syntax, notation, axiom, sorry.
-/
import Derived.Test.YtpcammhmgleonaaChecked
import GoSem.Claim
import GoSem.ClaimJoined
import GoSem.ClaimMapViews
import Derived.JoinedTies
import Derived.KernelRfl
namespace Go.Proofs.Ytpcammhmgleonaa
/- THE CELL 'sum', in the pinned program and in every row, IS THE sha256 OF THE DUMP (.gsa) THAT YtpcammhmgleonaaProg.lean LOADS. Nothing in Lean hashes anything: it is a label: what it is worth is what the hold of that sum in a sandbox is worth. -/
noncomputable def Try.pinned : Pinned := { name := "ytpcammhmgleonaa", sum := "344b2c55282e5f06f9148bc706cedcdb0ac3d8470e24d8d53be963d9c93e6abc", checked := Try.checked }
namespace Rows
def none {H : Type} : Left H := { results := [], args := [] }

/-- 'laws.FnDamageEnough': WHATEVER THE INPUT: true; the input reads as it did. -/
def fnDamageEnoughSpec : ChangeSpec := { name := "fnDamageEnough", fn := fun _ => fun
  | [d] => { results := [.lit (.bool true)], args := [d] }
  | _ => none }
def fnDamageEnoughRow : OpenClaim := { program := "ytpcammhmgleonaa", sum := "344b2c55282e5f06f9148bc706cedcdb0ac3d8470e24d8d53be963d9c93e6abc", func := "loop.example/g03313/laws.FnDamageEnough", spec := "fnDamageEnough", inPlace := ["slices.overlaps[loop.example/g03313/impl.Surface]"], unfollowed := true, recurses := true, apart := false }
def FnDamageEnoughSaid : Prop := fnDamageEnoughRow.holds Try.pinned (OpenSpec.ofChange fnDamageEnoughSpec)

/-- ITS FALSE NEIGHBOUR: 'it returns false'. Refute it at one input. -/
def fnDamageEnoughWrong : ChangeSpec := { name := "fnDamageEnough", fn := fun _ => fun
  | [d] => { results := [.lit (.bool false)], args := [d] }
  | _ => none }
def FnDamageEnoughWrongFalsely : Prop := fnDamageEnoughRow.holds Try.pinned (OpenSpec.ofChange fnDamageEnoughWrong)

/-- 'laws.FnExactColorImage': WHATEVER THE INPUT: true; the input reads as it did. -/
def fnExactColorImageSpec : ChangeSpec := { name := "fnExactColorImage", fn := fun _ => fun
  | [d1, d2] => { results := [.lit (.bool true)], args := [d1, d2] }
  | _ => none }
def fnExactColorImageRow : OpenClaim := { program := "ytpcammhmgleonaa", sum := "344b2c55282e5f06f9148bc706cedcdb0ac3d8470e24d8d53be963d9c93e6abc", func := "loop.example/g03313/laws.FnExactColorImage", spec := "fnExactColorImage", apart := false }
def FnExactColorImageSaid : Prop := fnExactColorImageRow.holds Try.pinned (OpenSpec.ofChange fnExactColorImageSpec)

/-- ITS FALSE NEIGHBOUR: 'it returns false'. Refute it at one input. -/
def fnExactColorImageWrong : ChangeSpec := { name := "fnExactColorImage", fn := fun _ => fun
  | [d1, d2] => { results := [.lit (.bool false)], args := [d1, d2] }
  | _ => none }
def FnExactColorImageWrongFalsely : Prop := fnExactColorImageRow.holds Try.pinned (OpenSpec.ofChange fnExactColorImageWrong)

/-- 'laws.FnEdits': WHATEVER THE INPUT: true; the input reads as it did. -/
def fnEditsSpec : ChangeSpec := { name := "fnEdits", fn := fun _ => fun
  | [d] => { results := [.lit (.bool true)], args := [d] }
  | _ => none }
def fnEditsRow : OpenClaim := { program := "ytpcammhmgleonaa", sum := "344b2c55282e5f06f9148bc706cedcdb0ac3d8470e24d8d53be963d9c93e6abc", func := "loop.example/g03313/laws.FnEdits", spec := "fnEdits", inPlace := ["slices.overlaps[loop.example/g03313/impl.Surface]"], unfollowed := true, recurses := true, apart := false }
def FnEditsSaid : Prop := fnEditsRow.holds Try.pinned (OpenSpec.ofChange fnEditsSpec)

/-- ITS FALSE NEIGHBOUR: 'it returns false'. Refute it at one input. -/
def fnEditsWrong : ChangeSpec := { name := "fnEdits", fn := fun _ => fun
  | [d] => { results := [.lit (.bool false)], args := [d] }
  | _ => none }
def FnEditsWrongFalsely : Prop := fnEditsRow.holds Try.pinned (OpenSpec.ofChange fnEditsWrong)

/-- 'laws.FnPaintLayers': WHATEVER THE INPUT: true; the input reads as it did. -/
def fnPaintLayersSpec : ChangeSpec := { name := "fnPaintLayers", fn := fun _ => fun
  | [d] => { results := [.lit (.bool true)], args := [d] }
  | _ => none }
def fnPaintLayersRow : OpenClaim := { program := "ytpcammhmgleonaa", sum := "344b2c55282e5f06f9148bc706cedcdb0ac3d8470e24d8d53be963d9c93e6abc", func := "loop.example/g03313/laws.FnPaintLayers", spec := "fnPaintLayers", unfollowed := true, recurses := true, apart := false }
def FnPaintLayersSaid : Prop := fnPaintLayersRow.holds Try.pinned (OpenSpec.ofChange fnPaintLayersSpec)

/-- ITS FALSE NEIGHBOUR: 'it returns false'. Refute it at one input. -/
def fnPaintLayersWrong : ChangeSpec := { name := "fnPaintLayers", fn := fun _ => fun
  | [d] => { results := [.lit (.bool false)], args := [d] }
  | _ => none }
def FnPaintLayersWrongFalsely : Prop := fnPaintLayersRow.holds Try.pinned (OpenSpec.ofChange fnPaintLayersWrong)

/-- 'laws.FnHidden': WHATEVER THE INPUT: true; the input reads as it did. -/
def fnHiddenSpec : ChangeSpec := { name := "fnHidden", fn := fun _ => fun
  | [d] => { results := [.lit (.bool true)], args := [d] }
  | _ => none }
def fnHiddenRow : OpenClaim := { program := "ytpcammhmgleonaa", sum := "344b2c55282e5f06f9148bc706cedcdb0ac3d8470e24d8d53be963d9c93e6abc", func := "loop.example/g03313/laws.FnHidden", spec := "fnHidden", unfollowed := true, recurses := true, apart := false }
def FnHiddenSaid : Prop := fnHiddenRow.holds Try.pinned (OpenSpec.ofChange fnHiddenSpec)

/-- ITS FALSE NEIGHBOUR: 'it returns false'. Refute it at one input. -/
def fnHiddenWrong : ChangeSpec := { name := "fnHidden", fn := fun _ => fun
  | [d] => { results := [.lit (.bool false)], args := [d] }
  | _ => none }
def FnHiddenWrongFalsely : Prop := fnHiddenRow.holds Try.pinned (OpenSpec.ofChange fnHiddenWrong)

/-- 'laws.FnRepaired': WHATEVER THE INPUT: true; the input reads as it did. -/
def fnRepairedSpec : ChangeSpec := { name := "fnRepaired", fn := fun _ => fun
  | [d] => { results := [.lit (.bool true)], args := [d] }
  | _ => none }
def fnRepairedRow : OpenClaim := { program := "ytpcammhmgleonaa", sum := "344b2c55282e5f06f9148bc706cedcdb0ac3d8470e24d8d53be963d9c93e6abc", func := "loop.example/g03313/laws.FnRepaired", spec := "fnRepaired", unfollowed := true, recurses := true, apart := false }
def FnRepairedSaid : Prop := fnRepairedRow.holds Try.pinned (OpenSpec.ofChange fnRepairedSpec)

/-- ITS FALSE NEIGHBOUR: 'it returns false'. Refute it at one input. -/
def fnRepairedWrong : ChangeSpec := { name := "fnRepaired", fn := fun _ => fun
  | [d] => { results := [.lit (.bool false)], args := [d] }
  | _ => none }
def FnRepairedWrongFalsely : Prop := fnRepairedRow.holds Try.pinned (OpenSpec.ofChange fnRepairedWrong)

/-- 'laws.FnOccluded': WHATEVER THE INPUT: true; the input reads as it did. -/
def fnOccludedSpec : ChangeSpec := { name := "fnOccluded", fn := fun _ => fun
  | [d] => { results := [.lit (.bool true)], args := [d] }
  | _ => none }
def fnOccludedRow : OpenClaim := { program := "ytpcammhmgleonaa", sum := "344b2c55282e5f06f9148bc706cedcdb0ac3d8470e24d8d53be963d9c93e6abc", func := "loop.example/g03313/laws.FnOccluded", spec := "fnOccluded", unfollowed := true, recurses := true, apart := false }
def FnOccludedSaid : Prop := fnOccludedRow.holds Try.pinned (OpenSpec.ofChange fnOccludedSpec)

/-- ITS FALSE NEIGHBOUR: 'it returns false'. Refute it at one input. -/
def fnOccludedWrong : ChangeSpec := { name := "fnOccluded", fn := fun _ => fun
  | [d] => { results := [.lit (.bool false)], args := [d] }
  | _ => none }
def FnOccludedWrongFalsely : Prop := fnOccludedRow.holds Try.pinned (OpenSpec.ofChange fnOccludedWrong)

/- THE SECOND FORM. 'bulk': how many values and letters a reading holds, each counted each time it is reached (what is shared counts as often as it is met; a slice's spare places count too). A statement '..UptoSaid' is the law's where the arguments, and the package variables that the reading takes, are together of bulk at most 1048576: NARROWER than '..Said'. Prove '..Said' where nothing that the law and all that it calls make is longer than what came in: it says more and counts as full. Else prove '..UptoSaid'. A law counts once. -/
mutual
def uptoBulk {H : Type} : DataW H → Nat
  | .lit (.string bytes) => bytes.length + 1
  | .lit _ => 1
  | .nil => 1
  | .ptr d => uptoBulk d + 1
  | .slice elems spare => uptoBulkAll elems + uptoBulkAll spare + 1
  | .agg parts => uptoBulkAll parts + 1
  | .iface _ d => uptoBulk d + 1
  | .map entries => uptoBulkEntries entries + 1
  | .held _ => 1
def uptoBulkAll {H : Type} : List (DataW H) → Nat
  | [] => 0
  | d :: r => uptoBulk d + uptoBulkAll r
def uptoBulkEntries {H : Type} : List (Lit × DataW H) → Nat
  | [] => 0
  | x :: r => uptoBulkEntry x + uptoBulkEntries r
def uptoBulkEntry {H : Type} : Lit × DataW H → Nat
  | (.string bytes, d) => bytes.length + uptoBulk d + 1
  | (_, d) => uptoBulk d + 1
 end
def uptoSmall : (H : Type) → List (DataW H) → Bool := fun _ ds => decide (uptoBulkAll ds ≤ 1048576)
def OpenSpec.upto (s : _root_.Go.ChangeSpec) : _root_.Go.OpenSpec := { _root_.Go.OpenSpec.ofChange s with cond := some uptoSmall }

/-- 'laws.FnDamageEnough', WHERE WHAT IT READS IS OF BULK AT MOST 1048576: true; the input reads as it did. -/
def fnDamageEnoughUptoRow : OpenClaim := { program := "ytpcammhmgleonaa", sum := "344b2c55282e5f06f9148bc706cedcdb0ac3d8470e24d8d53be963d9c93e6abc", func := "loop.example/g03313/laws.FnDamageEnough", spec := "fnDamageEnough", inPlace := ["slices.overlaps[loop.example/g03313/impl.Surface]"], unfollowed := true, recurses := true, apart := false, narrowed := true }
def FnDamageEnoughUptoSaid : Prop := fnDamageEnoughUptoRow.holds Try.pinned (OpenSpec.upto fnDamageEnoughSpec)

/-- 'laws.FnExactColorImage', WHERE WHAT IT READS IS OF BULK AT MOST 1048576: true; the input reads as it did. -/
def fnExactColorImageUptoRow : OpenClaim := { program := "ytpcammhmgleonaa", sum := "344b2c55282e5f06f9148bc706cedcdb0ac3d8470e24d8d53be963d9c93e6abc", func := "loop.example/g03313/laws.FnExactColorImage", spec := "fnExactColorImage", apart := false, narrowed := true }
def FnExactColorImageUptoSaid : Prop := fnExactColorImageUptoRow.holds Try.pinned (OpenSpec.upto fnExactColorImageSpec)

/-- 'laws.FnEdits', WHERE WHAT IT READS IS OF BULK AT MOST 1048576: true; the input reads as it did. -/
def fnEditsUptoRow : OpenClaim := { program := "ytpcammhmgleonaa", sum := "344b2c55282e5f06f9148bc706cedcdb0ac3d8470e24d8d53be963d9c93e6abc", func := "loop.example/g03313/laws.FnEdits", spec := "fnEdits", inPlace := ["slices.overlaps[loop.example/g03313/impl.Surface]"], unfollowed := true, recurses := true, apart := false, narrowed := true }
def FnEditsUptoSaid : Prop := fnEditsUptoRow.holds Try.pinned (OpenSpec.upto fnEditsSpec)

/-- 'laws.FnPaintLayers', WHERE WHAT IT READS IS OF BULK AT MOST 1048576: true; the input reads as it did. -/
def fnPaintLayersUptoRow : OpenClaim := { program := "ytpcammhmgleonaa", sum := "344b2c55282e5f06f9148bc706cedcdb0ac3d8470e24d8d53be963d9c93e6abc", func := "loop.example/g03313/laws.FnPaintLayers", spec := "fnPaintLayers", unfollowed := true, recurses := true, apart := false, narrowed := true }
def FnPaintLayersUptoSaid : Prop := fnPaintLayersUptoRow.holds Try.pinned (OpenSpec.upto fnPaintLayersSpec)

/-- 'laws.FnHidden', WHERE WHAT IT READS IS OF BULK AT MOST 1048576: true; the input reads as it did. -/
def fnHiddenUptoRow : OpenClaim := { program := "ytpcammhmgleonaa", sum := "344b2c55282e5f06f9148bc706cedcdb0ac3d8470e24d8d53be963d9c93e6abc", func := "loop.example/g03313/laws.FnHidden", spec := "fnHidden", unfollowed := true, recurses := true, apart := false, narrowed := true }
def FnHiddenUptoSaid : Prop := fnHiddenUptoRow.holds Try.pinned (OpenSpec.upto fnHiddenSpec)

/-- 'laws.FnRepaired', WHERE WHAT IT READS IS OF BULK AT MOST 1048576: true; the input reads as it did. -/
def fnRepairedUptoRow : OpenClaim := { program := "ytpcammhmgleonaa", sum := "344b2c55282e5f06f9148bc706cedcdb0ac3d8470e24d8d53be963d9c93e6abc", func := "loop.example/g03313/laws.FnRepaired", spec := "fnRepaired", unfollowed := true, recurses := true, apart := false, narrowed := true }
def FnRepairedUptoSaid : Prop := fnRepairedUptoRow.holds Try.pinned (OpenSpec.upto fnRepairedSpec)

/-- 'laws.FnOccluded', WHERE WHAT IT READS IS OF BULK AT MOST 1048576: true; the input reads as it did. -/
def fnOccludedUptoRow : OpenClaim := { program := "ytpcammhmgleonaa", sum := "344b2c55282e5f06f9148bc706cedcdb0ac3d8470e24d8d53be963d9c93e6abc", func := "loop.example/g03313/laws.FnOccluded", spec := "fnOccluded", unfollowed := true, recurses := true, apart := false, narrowed := true }
def FnOccludedUptoSaid : Prop := fnOccludedUptoRow.holds Try.pinned (OpenSpec.upto fnOccludedSpec)

end Rows
end Go.Proofs.Ytpcammhmgleonaa
