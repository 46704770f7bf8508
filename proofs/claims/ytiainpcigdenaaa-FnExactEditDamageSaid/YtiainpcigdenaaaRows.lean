/-
  No cell of these rows narrows 'for every input' (looked for: loops, veiled, ifaces, maps, wideKeys, modest, calm, conditions, laid).
  DERIVED. THE GIVEN ROWS OF THIS SEAT. 3 by the template 'for every input the law returns true; each argument reads behind the call as it read before'; 0 by the template 'total and deterministic' (their statements: YtiainpcigdenaaaTotals.lean).
  GIVEN WITH THE SEED: the statements are not yours to turn. If you find one false, say at which input.
  Laid BY PROGRAM, IN A SANDBOX (cutbox-rows.mjs): the forced cells as the released guide's own fill.sh prints them over the translation 63612b83f02f5d8d… (all of the seat's roots in one cut). By AI agents, Wed Nov 11 2026. No macro, syntax, notation, axiom, sorry.
-/
import Derived.Test.YtiainpcigdenaaaChecked
import GoSem.Claim
import GoSem.ClaimJoined
import GoSem.ClaimMapViews
import Derived.JoinedTies
import Derived.KernelRfl
namespace Go.Proofs.Ytiainpcigdenaaa
/- THE CELL 'sum', in the pinned program and in every row, IS THE sha256 OF THE DUMP (.gsa) THAT YtiainpcigdenaaaProg.lean LOADS. Nothing in Lean hashes anything: it is a label: what it is worth is what the hold of that sum in a sandbox is worth. -/
noncomputable def Try.pinned : Pinned := { name := "ytiainpcigdenaaa", sum := "63612b83f02f5d8df23f3bde0a3f684fef0f2f837a41e50b05c5922ded31e4cc", checked := Try.checked }
namespace Rows
def none {H : Type} : Left H := { results := [], args := [] }

/-- 'laws.FnExactDoEdit': WHATEVER THE INPUT: true; the input reads as it did. -/
def fnExactDoEditSpec : ChangeSpec := { name := "fnExactDoEdit", fn := fun _ => fun
  | [d1, d2] => { results := [.lit (.bool true)], args := [d1, d2] }
  | _ => none }
def fnExactDoEditRow : OpenClaim := { program := "ytiainpcigdenaaa", sum := "63612b83f02f5d8df23f3bde0a3f684fef0f2f837a41e50b05c5922ded31e4cc", func := "loop.example/g03313/laws.FnExactDoEdit", spec := "fnExactDoEdit", inPlace := ["slices.overlaps[loop.example/g03313/impl.Surface]"], unfollowed := true, recurses := true, apart := false }
def FnExactDoEditSaid : Prop := fnExactDoEditRow.holds Try.pinned (OpenSpec.ofChange fnExactDoEditSpec)

/-- ITS FALSE NEIGHBOUR: 'it returns false'. Refute it at one input. -/
def fnExactDoEditWrong : ChangeSpec := { name := "fnExactDoEdit", fn := fun _ => fun
  | [d1, d2] => { results := [.lit (.bool false)], args := [d1, d2] }
  | _ => none }
def FnExactDoEditWrongFalsely : Prop := fnExactDoEditRow.holds Try.pinned (OpenSpec.ofChange fnExactDoEditWrong)

/-- 'laws.FnExactDoEdits': WHATEVER THE INPUT: true; the input reads as it did. -/
def fnExactDoEditsSpec : ChangeSpec := { name := "fnExactDoEdits", fn := fun _ => fun
  | [d1, d2] => { results := [.lit (.bool true)], args := [d1, d2] }
  | _ => none }
def fnExactDoEditsRow : OpenClaim := { program := "ytiainpcigdenaaa", sum := "63612b83f02f5d8df23f3bde0a3f684fef0f2f837a41e50b05c5922ded31e4cc", func := "loop.example/g03313/laws.FnExactDoEdits", spec := "fnExactDoEdits", inPlace := ["slices.overlaps[loop.example/g03313/impl.Surface]"], unfollowed := true, recurses := true, apart := false }
def FnExactDoEditsSaid : Prop := fnExactDoEditsRow.holds Try.pinned (OpenSpec.ofChange fnExactDoEditsSpec)

/-- ITS FALSE NEIGHBOUR: 'it returns false'. Refute it at one input. -/
def fnExactDoEditsWrong : ChangeSpec := { name := "fnExactDoEdits", fn := fun _ => fun
  | [d1, d2] => { results := [.lit (.bool false)], args := [d1, d2] }
  | _ => none }
def FnExactDoEditsWrongFalsely : Prop := fnExactDoEditsRow.holds Try.pinned (OpenSpec.ofChange fnExactDoEditsWrong)

/-- 'laws.FnExactEditDamage': WHATEVER THE INPUT: true; the input reads as it did. -/
def fnExactEditDamageSpec : ChangeSpec := { name := "fnExactEditDamage", fn := fun _ => fun
  | [d1, d2] => { results := [.lit (.bool true)], args := [d1, d2] }
  | _ => none }
def fnExactEditDamageRow : OpenClaim := { program := "ytiainpcigdenaaa", sum := "63612b83f02f5d8df23f3bde0a3f684fef0f2f837a41e50b05c5922ded31e4cc", func := "loop.example/g03313/laws.FnExactEditDamage", spec := "fnExactEditDamage", inPlace := ["slices.overlaps[loop.example/g03313/impl.Surface]"], unfollowed := true, recurses := true, apart := false }
def FnExactEditDamageSaid : Prop := fnExactEditDamageRow.holds Try.pinned (OpenSpec.ofChange fnExactEditDamageSpec)

/-- ITS FALSE NEIGHBOUR: 'it returns false'. Refute it at one input. -/
def fnExactEditDamageWrong : ChangeSpec := { name := "fnExactEditDamage", fn := fun _ => fun
  | [d1, d2] => { results := [.lit (.bool false)], args := [d1, d2] }
  | _ => none }
def FnExactEditDamageWrongFalsely : Prop := fnExactEditDamageRow.holds Try.pinned (OpenSpec.ofChange fnExactEditDamageWrong)

/- THE SECOND FORM. 'bulk': how many values and letters a reading holds, each counted each time it is reached (what is shared counts as often as it is met; a slice's spare places count too). A statement '..UptoSaid' is the law's where the arguments, and the package variables that the reading takes, are together of bulk at most 1048576: NARROWER than '..Said'. Prove '..Said' where nothing that the law and all that it calls make is longer than what came in: it says more and counts as full. Else prove '..UptoSaid'. A law counts once. -/
mutual
def uptoBulk {H : Type} : DataW H → Nat
  | .lit (.string bytes) => bytes.length + 1
  | .lit _ => 1
  | .nil => 1
  | .ptr d => uptoBulk d + 1
  | .slice elems spare => uptoBulkAll elems + uptoBulkAll spare + 1
  | .agg parts => uptoBulkAll parts + 1
  | .iface _ d => uptoBulk d + 1
  | .map entries => uptoBulkEntries entries + 1
  | .held _ => 1
def uptoBulkAll {H : Type} : List (DataW H) → Nat
  | [] => 0
  | d :: r => uptoBulk d + uptoBulkAll r
def uptoBulkEntries {H : Type} : List (Lit × DataW H) → Nat
  | [] => 0
  | x :: r => uptoBulkEntry x + uptoBulkEntries r
def uptoBulkEntry {H : Type} : Lit × DataW H → Nat
  | (.string bytes, d) => bytes.length + uptoBulk d + 1
  | (_, d) => uptoBulk d + 1
 end
def uptoSmall : (H : Type) → List (DataW H) → Bool := fun _ ds => decide (uptoBulkAll ds ≤ 1048576)
def OpenSpec.upto (s : _root_.Go.ChangeSpec) : _root_.Go.OpenSpec := { _root_.Go.OpenSpec.ofChange s with cond := some uptoSmall }

/-- 'laws.FnExactDoEdit', WHERE WHAT IT READS IS OF BULK AT MOST 1048576: true; the input reads as it did. -/
def fnExactDoEditUptoRow : OpenClaim := { program := "ytiainpcigdenaaa", sum := "63612b83f02f5d8df23f3bde0a3f684fef0f2f837a41e50b05c5922ded31e4cc", func := "loop.example/g03313/laws.FnExactDoEdit", spec := "fnExactDoEdit", inPlace := ["slices.overlaps[loop.example/g03313/impl.Surface]"], unfollowed := true, recurses := true, apart := false, narrowed := true }
def FnExactDoEditUptoSaid : Prop := fnExactDoEditUptoRow.holds Try.pinned (OpenSpec.upto fnExactDoEditSpec)

/-- 'laws.FnExactDoEdits', WHERE WHAT IT READS IS OF BULK AT MOST 1048576: true; the input reads as it did. -/
def fnExactDoEditsUptoRow : OpenClaim := { program := "ytiainpcigdenaaa", sum := "63612b83f02f5d8df23f3bde0a3f684fef0f2f837a41e50b05c5922ded31e4cc", func := "loop.example/g03313/laws.FnExactDoEdits", spec := "fnExactDoEdits", inPlace := ["slices.overlaps[loop.example/g03313/impl.Surface]"], unfollowed := true, recurses := true, apart := false, narrowed := true }
def FnExactDoEditsUptoSaid : Prop := fnExactDoEditsUptoRow.holds Try.pinned (OpenSpec.upto fnExactDoEditsSpec)

/-- 'laws.FnExactEditDamage', WHERE WHAT IT READS IS OF BULK AT MOST 1048576: true; the input reads as it did. -/
def fnExactEditDamageUptoRow : OpenClaim := { program := "ytiainpcigdenaaa", sum := "63612b83f02f5d8df23f3bde0a3f684fef0f2f837a41e50b05c5922ded31e4cc", func := "loop.example/g03313/laws.FnExactEditDamage", spec := "fnExactEditDamage", inPlace := ["slices.overlaps[loop.example/g03313/impl.Surface]"], unfollowed := true, recurses := true, apart := false, narrowed := true }
def FnExactEditDamageUptoSaid : Prop := fnExactEditDamageUptoRow.holds Try.pinned (OpenSpec.upto fnExactEditDamageSpec)

end Rows
end Go.Proofs.Ytiainpcigdenaaa
