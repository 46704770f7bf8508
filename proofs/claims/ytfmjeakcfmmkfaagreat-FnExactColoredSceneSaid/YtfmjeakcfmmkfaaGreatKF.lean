/-
  Is this the call of that function.
-/
import Derived.Test.YtfmjeakcfmmkfaaGreatSx
set_option linter.unusedVariables false
namespace Go.Proofs.YtfmjeakcfmmkfaaGreat
open Go Sx
section
variable {n : Nat} {lo : SMut} {s : World} {ops : Array Oper} {Q : Exit → Act → World → Prop} {E : SEnv} {L : SHeap} {ty : TypeId} {pos : String} {after : Array Edge} {rest : List Oper}
theorem kWFn (f : FuncId) {P : Program} {aa : Array Operand} {ts : Array TypeId} {d : Option Tmp} {g : Option (Nat × Bool)} (h : WPL P n lo s ops Q (⟨d, .call { callee := .value (.func f), args := aa, argTypes := ts }, ty, pos, after, g⟩ :: rest) E L) : WPL P n lo s ops Q (⟨d, .call { callee := .value (.func f), args := aa, argTypes := ts }, ty, pos, after, g⟩ :: rest) E L := h
end
end Go.Proofs.YtfmjeakcfmmkfaaGreat
