/-
  The words at the head of this seat's program, and the three facts on the program that the rows need. Printed by a program.
-/
import Derived.Test.YtpcammhmgleonaaGreatSxL
import Derived.Test.YtpcammhmgleonaaGreatRows
import Derived.KernelRfl
namespace Go.Proofs.YtpcammhmgleonaaGreat.Hd
open Go Sx
set_option maxRecDepth 100000
theorem io0 : Tryz.prog.initOrder = String.ofList (chs [104, 97, 114, 110, 101, 115, 115, 32, 52, 51, 101, 53, 55, 50, 56, 49, 100, 97, 52, 52, 49, 97, 52, 102, 100, 51, 55, 100, 97, 49, 102, 54, 55, 97, 101, 98, 49, 53, 54, 53, 101, 50, 56, 48, 55, 56, 51, 53, 55, 50, 102, 49, 97, 97, 52, 98, 51, 56, 98, 49, 56, 50, 102, 56, 52, 101, 50, 50, 48, 56, 53, 101, 32, 99, 117, 116, 32, 97, 116, 32, 108, 111, 111, 112, 46, 101, 120, 97, 109, 112, 108, 101, 47, 103, 48, 51, 51, 49, 51, 47, 108, 97, 119, 115, 46, 70, 110, 65, 103, 101, 100, 32, 108, 111, 111, 112, 46, 101, 120, 97, 109, 112, 108, 101, 47, 103, 48, 51, 51, 49, 51, 47, 108, 97, 119, 115, 46, 70, 110, 65, 108, 108, 83, 104, 111, 119, 110]) := by kernel_rfl
theorem io2 : Tryz.prog.initOrder.toList = chs [104, 97, 114, 110, 101, 115, 115, 32, 52, 51, 101, 53, 55, 50, 56, 49, 100, 97, 52, 52, 49, 97, 52, 102, 100, 51, 55, 100, 97, 49, 102, 54, 55, 97, 101, 98, 49, 53, 54, 53, 101, 50, 56, 48, 55, 56, 51, 53, 55, 50, 102, 49, 97, 97, 52, 98, 51, 56, 98, 49, 56, 50, 102, 56, 52, 101, 50, 50, 48, 56, 53, 101, 32, 99, 117, 116, 32, 97, 116, 32, 108, 111, 111, 112, 46, 101, 120, 97, 109, 112, 108, 101, 47, 103, 48, 51, 51, 49, 51, 47, 108, 97, 119, 115, 46, 70, 110, 65, 103, 101, 100, 32, 108, 111, 111, 112, 46, 101, 120, 97, 109, 112, 108, 101, 47, 103, 48, 51, 51, 49, 51, 47, 108, 97, 119, 115, 46, 70, 110, 65, 108, 108, 83, 104, 111, 119, 110] := by
  rw [io0]; exact String.toList_ofList
theorem io3 : behindMainWord (wordsSigns (chs [104, 97, 114, 110, 101, 115, 115, 32, 52, 51, 101, 53, 55, 50, 56, 49, 100, 97, 52, 52, 49, 97, 52, 102, 100, 51, 55, 100, 97, 49, 102, 54, 55, 97, 101, 98, 49, 53, 54, 53, 101, 50, 56, 48, 55, 56, 51, 53, 55, 50, 102, 49, 97, 97, 52, 98, 51, 56, 98, 49, 56, 50, 102, 56, 52, 101, 50, 50, 48, 56, 53, 101, 32, 99, 117, 116, 32, 97, 116, 32, 108, 111, 111, 112, 46, 101, 120, 97, 109, 112, 108, 101, 47, 103, 48, 51, 51, 49, 51, 47, 108, 97, 119, 115, 46, 70, 110, 65, 103, 101, 100, 32, 108, 111, 111, 112, 46, 101, 120, 97, 109, 112, 108, 101, 47, 103, 48, 51, 51, 49, 51, 47, 108, 97, 119, 115, 46, 70, 110, 65, 108, 108, 83, 104, 111, 119, 110])) = "cut".toList :: [chs [97, 116], chs [108, 111, 111, 112, 46, 101, 120, 97, 109, 112, 108, 101, 47, 103, 48, 51, 51, 49, 51, 47, 108, 97, 119, 115, 46, 70, 110, 65, 103, 101, 100], chs [108, 111, 111, 112, 46, 101, 120, 97, 109, 112, 108, 101, 47, 103, 48, 51, 51, 49, 51, 47, 108, 97, 119, 115, 46, 70, 110, 65, 108, 108, 83, 104, 111, 119, 110]] := by kernel_rfl
theorem io4 : behindMainWord (wordsSigns Tryz.prog.initOrder.toList) = "cut".toList :: [chs [97, 116], chs [108, 111, 111, 112, 46, 101, 120, 97, 109, 112, 108, 101, 47, 103, 48, 51, 51, 49, 51, 47, 108, 97, 119, 115, 46, 70, 110, 65, 103, 101, 100], chs [108, 111, 111, 112, 46, 101, 120, 97, 109, 112, 108, 101, 47, 103, 48, 51, 51, 49, 51, 47, 108, 97, 119, 115, 46, 70, 110, 65, 108, 108, 83, 104, 111, 119, 110]] := by
  rw [io2]; exact io3
theorem laysLater : Tryz.prog.laysLater = false := by kernel_rfl
theorem bearsReflect : Tryz.prog.bearsReflect = false := by kernel_rfl
theorem doorFits : Tryz.prog.doorFits [] = true := by kernel_rfl
theorem enter : Tryz.prog.mayEnter = true := mayEnter_cut io4 laysLater bearsReflect doorFits
theorem lifts : Tryz.prog.liftsFinal = false := liftsFinal_cut io4
theorem make : Tryz.prog.make = some .cut := make_cut io4
theorem own : ownKnob Tryz.prog.godebug = none := by kernel_rfl
theorem laid : laidOutB Tryz.prog = true := by kernel_rfl
end Go.Proofs.YtpcammhmgleonaaGreat.Hd
