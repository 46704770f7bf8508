/-
  Which loop is it: the number of the region that it begins with.
-/
import Derived.Test.YtbpflnececfkmaaSx
set_option linter.unusedVariables false
namespace Go.Proofs.Ytbpflnececfkmaa
open Go Sx
section
variable {P : Program} {n : Nat} {lo : SMut} {s : World} {Q : Exit → Act → World → Prop} {E : SEnv} {L : SHeap}
theorem kLoop (id : Nat) {ops : Array Oper} {dr : Bool} {y z : Code} (h : WPC P n lo s (.loop (.seq (.seq (.region id ops dr) z) y)) Q E L) : WPC P n lo s (.loop (.seq (.seq (.region id ops dr) z) y)) Q E L := h
theorem kLoopR (id : Nat) {ops : Array Oper} {dr : Bool} {z : Code} (h : WPC P n lo s (.loop (.seq (.region id ops dr) z)) Q E L) : WPC P n lo s (.loop (.seq (.region id ops dr) z)) Q E L := h
end
end Go.Proofs.Ytbpflnececfkmaa
