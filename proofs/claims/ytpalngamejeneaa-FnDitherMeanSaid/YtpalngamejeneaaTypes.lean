/-
  The facts on the types and functions of this seat that the engine looks up by instance. Printed by a program.
-/
import Derived.Test.YtpalngamejeneaaProg
import Derived.Test.YtpalngamejeneaaSx
import Derived.KernelRfl
namespace Go.Proofs.Ytpalngamejeneaa
open Go Sx
abbrev sxu2 := SUnd.mk Try.underlying2
attribute [instance] sxu2
instance : SInf Try.prog 2 (.int .i64 0) 1 8 := ⟨by kernel_rfl⟩
abbrev sxu3 := SUnd.mk Try.underlying3
attribute [instance] sxu3
instance : SInf Try.prog 3 (.int .i64 0) 1 8 := ⟨by kernel_rfl⟩
abbrev sxu4 := SUnd.mk Try.underlying4
attribute [instance] sxu4
instance : SInf Try.prog 4 (.bool false) 1 1 := ⟨by kernel_rfl⟩
abbrev sxu5 := SUnd.mk Try.underlying5
attribute [instance] sxu5
instance : SInf Try.prog 5 (.int .u8 0) 1 1 := ⟨by kernel_rfl⟩
abbrev sxu9 := SUnd.mk Try.underlying9
attribute [instance] sxu9
instance : SInf Try.prog 9 (.string ⟨#[]⟩) 1 16 := ⟨by kernel_rfl⟩
abbrev sxu12 := SUnd.mk Try.underlying12
attribute [instance] sxu12
instance : SInf Try.prog 12 (.int .u64 0) 1 8 := ⟨by kernel_rfl⟩
abbrev sxu17 := SUnd.mk Try.underlying17
attribute [instance] sxu17
instance : SInf Try.prog 17 (.pointer none) 1 8 := ⟨by kernel_rfl⟩
abbrev sxu21 := SUnd.mk Try.underlying21
attribute [instance] sxu21
instance : SInf Try.prog 21 (.int .i32 0) 1 4 := ⟨by kernel_rfl⟩
abbrev sxu24 := SUnd.mk Try.underlying24
attribute [instance] sxu24
instance : SFld Try.prog 24 0 0 := ⟨by kernel_rfl⟩
instance : SFld Try.prog 24 1 1 := ⟨by kernel_rfl⟩
instance : SFld Try.prog 24 2 2 := ⟨by kernel_rfl⟩
instance : SFld Try.prog 24 3 3 := ⟨by kernel_rfl⟩
instance : SFld Try.prog 24 4 4 := ⟨by kernel_rfl⟩
instance : SFld Try.prog 24 5 5 := ⟨by kernel_rfl⟩
instance : SFld Try.prog 24 6 6 := ⟨by kernel_rfl⟩
instance : SFld Try.prog 24 7 7 := ⟨by kernel_rfl⟩
instance : SFld Try.prog 24 8 8 := ⟨by kernel_rfl⟩
instance : SInf Try.prog 24 (.agg #[.int .i64 0, .int .i64 0, .int .i64 0, .int .i64 0, .int .i64 0, .int .i64 0, .int .i64 0, .int .i64 0, .int .i64 0]) 9 72 := ⟨by kernel_rfl⟩
abbrev sxu25 := SUnd.mk Try.underlying25
attribute [instance] sxu25
instance : SFld Try.prog 25 0 0 := ⟨by kernel_rfl⟩
instance : SFld Try.prog 25 1 1 := ⟨by kernel_rfl⟩
instance : SFld Try.prog 25 2 2 := ⟨by kernel_rfl⟩
instance : SFld Try.prog 25 3 3 := ⟨by kernel_rfl⟩
instance : SFld Try.prog 25 4 4 := ⟨by kernel_rfl⟩
instance : SFld Try.prog 25 5 5 := ⟨by kernel_rfl⟩
instance : SFld Try.prog 25 6 6 := ⟨by kernel_rfl⟩
instance : SFld Try.prog 25 7 7 := ⟨by kernel_rfl⟩
instance : SFld Try.prog 25 8 8 := ⟨by kernel_rfl⟩
instance : SInf Try.prog 25 (.agg #[.int .i64 0, .int .i64 0, .int .i64 0, .int .i64 0, .int .i64 0, .int .i64 0, .int .i64 0, .int .i64 0, .int .i64 0]) 9 72 := ⟨by kernel_rfl⟩
abbrev sxu27 := SUnd.mk Try.underlying27
attribute [instance] sxu27
instance : SFld Try.prog 27 0 0 := ⟨by kernel_rfl⟩
instance : SFld Try.prog 27 1 1 := ⟨by kernel_rfl⟩
instance : SFld Try.prog 27 2 2 := ⟨by kernel_rfl⟩
instance : SFld Try.prog 27 3 3 := ⟨by kernel_rfl⟩
instance : SFld Try.prog 27 4 4 := ⟨by kernel_rfl⟩
instance : SFld Try.prog 27 5 5 := ⟨by kernel_rfl⟩
instance : SFld Try.prog 27 6 6 := ⟨by kernel_rfl⟩
instance : SFld Try.prog 27 7 7 := ⟨by kernel_rfl⟩
instance : SFld Try.prog 27 8 8 := ⟨by kernel_rfl⟩
instance : SInf Try.prog 27 (.agg #[.int .i64 0, .int .i64 0, .int .i64 0, .int .i64 0, .int .i64 0, .int .i64 0, .int .i64 0, .int .i64 0, .int .i64 0]) 9 72 := ⟨by kernel_rfl⟩
abbrev sxu30 := SUnd.mk Try.underlying30
attribute [instance] sxu30
instance : SInf Try.prog 30 (.slice none 0 0) 1 24 := ⟨by kernel_rfl⟩
abbrev sxu36 := SUnd.mk Try.underlying36
attribute [instance] sxu36
instance : SInf Try.prog 36 (.slice none 0 0) 1 24 := ⟨by kernel_rfl⟩
abbrev sxu43 := SUnd.mk Try.underlying43
attribute [instance] sxu43
instance : SFld Try.prog 43 0 0 := ⟨by kernel_rfl⟩
instance : SFld Try.prog 43 1 1 := ⟨by kernel_rfl⟩
instance : SFld Try.prog 43 2 2 := ⟨by kernel_rfl⟩
instance : SFld Try.prog 43 3 3 := ⟨by kernel_rfl⟩
instance : SFld Try.prog 43 4 4 := ⟨by kernel_rfl⟩
instance : SInf Try.prog 43 (.agg #[.int .i64 0, .int .i64 0, .bool false, .bool false, .bool false]) 5 24 := ⟨by kernel_rfl⟩
abbrev sxu44 := SUnd.mk Try.underlying44
attribute [instance] sxu44
instance : SFld Try.prog 44 0 0 := ⟨by kernel_rfl⟩
instance : SFld Try.prog 44 1 1 := ⟨by kernel_rfl⟩
instance : SFld Try.prog 44 2 2 := ⟨by kernel_rfl⟩
instance : SFld Try.prog 44 3 3 := ⟨by kernel_rfl⟩
instance : SFld Try.prog 44 4 4 := ⟨by kernel_rfl⟩
instance : SInf Try.prog 44 (.agg #[.int .i64 0, .int .i64 0, .bool false, .bool false, .bool false]) 5 24 := ⟨by kernel_rfl⟩
abbrev sxu48 := SUnd.mk Try.underlying48
attribute [instance] sxu48
instance : SFld Try.prog 48 0 0 := ⟨by kernel_rfl⟩
instance : SFld Try.prog 48 1 1 := ⟨by kernel_rfl⟩
instance : SInf Try.prog 48 (.agg #[.slice none 0 0, .slice none 0 0]) 2 48 := ⟨by kernel_rfl⟩
abbrev sxu49 := SUnd.mk Try.underlying49
attribute [instance] sxu49
instance : SFld Try.prog 49 0 0 := ⟨by kernel_rfl⟩
instance : SFld Try.prog 49 1 1 := ⟨by kernel_rfl⟩
instance : SInf Try.prog 49 (.agg #[.slice none 0 0, .slice none 0 0]) 2 48 := ⟨by kernel_rfl⟩
abbrev sxu52 := SUnd.mk Try.underlying52
attribute [instance] sxu52
instance : SFld Try.prog 52 0 0 := ⟨by kernel_rfl⟩
instance : SFld Try.prog 52 1 1 := ⟨by kernel_rfl⟩
instance : SInf Try.prog 52 (.agg #[.slice none 0 0, .slice none 0 0]) 2 48 := ⟨by kernel_rfl⟩
abbrev sxu64 := SUnd.mk Try.underlying64
attribute [instance] sxu64
instance : SInf Try.prog 64 (.int .u64 0) 1 8 := ⟨by kernel_rfl⟩
abbrev sxu66 := SUnd.mk Try.underlying66
attribute [instance] sxu66
instance : SInf Try.prog 66 (.pointer none) 1 8 := ⟨by kernel_rfl⟩
abbrev sxu71 := SUnd.mk Try.underlying71
attribute [instance] sxu71
instance : SFld Try.prog 71 0 0 := ⟨by kernel_rfl⟩
instance : SFld Try.prog 71 1 1 := ⟨by kernel_rfl⟩
instance : SFld Try.prog 71 2 2 := ⟨by kernel_rfl⟩
instance : SInf Try.prog 71 (.agg #[.slice none 0 0, .int .i64 0, .int .i64 0]) 3 40 := ⟨by kernel_rfl⟩
abbrev sxu72 := SUnd.mk Try.underlying72
attribute [instance] sxu72
instance : SFld Try.prog 72 0 0 := ⟨by kernel_rfl⟩
instance : SFld Try.prog 72 1 1 := ⟨by kernel_rfl⟩
instance : SFld Try.prog 72 2 2 := ⟨by kernel_rfl⟩
instance : SInf Try.prog 72 (.agg #[.slice none 0 0, .int .i64 0, .int .i64 0]) 3 40 := ⟨by kernel_rfl⟩
abbrev sxu81 := SUnd.mk Try.underlying81
attribute [instance] sxu81
instance : SInf Try.prog 81 (.int .u32 0) 1 4 := ⟨by kernel_rfl⟩
abbrev sxu85 := SUnd.mk Try.underlying85
attribute [instance] sxu85
instance : SInf Try.prog 85 (.pointer none) 1 8 := ⟨by kernel_rfl⟩
abbrev sxu88 := SUnd.mk Try.underlying88
attribute [instance] sxu88
instance : SFld Try.prog 88 0 0 := ⟨by kernel_rfl⟩
instance : SFld Try.prog 88 1 1 := ⟨by kernel_rfl⟩
instance : SFld Try.prog 88 2 2 := ⟨by kernel_rfl⟩
instance : SFld Try.prog 88 3 3 := ⟨by kernel_rfl⟩
instance : SFld Try.prog 88 4 4 := ⟨by kernel_rfl⟩
instance : SFld Try.prog 88 5 5 := ⟨by kernel_rfl⟩
instance : SFld Try.prog 88 6 6 := ⟨by kernel_rfl⟩
instance : SFld Try.prog 88 7 7 := ⟨by kernel_rfl⟩
instance : SFld Try.prog 88 8 8 := ⟨by kernel_rfl⟩
instance : SFld Try.prog 88 9 9 := ⟨by kernel_rfl⟩
instance : SFld Try.prog 88 10 10 := ⟨by kernel_rfl⟩
instance : SInf Try.prog 88 (.agg #[.int .u64 0, .int .u64 0, .int .u32 0, .int .u8 0, .int .u8 0, .int .u8 0, .int .u8 0, .nilFunc, .pointer none, .int .i32 0, .int .i32 0]) 11 48 := ⟨by kernel_rfl⟩
instance : SCallee Try.prog 3 := ⟨_, Try.func3, by kernel_rfl, by kernel_rfl⟩
instance : SCallee Try.prog 4 := ⟨_, Try.func4, by kernel_rfl, by kernel_rfl⟩
instance : SCallee Try.prog 5 := ⟨_, Try.func5, by kernel_rfl, by kernel_rfl⟩
instance : SCallee Try.prog 6 := ⟨_, Try.func6, by kernel_rfl, by kernel_rfl⟩
instance : SCallee Try.prog 7 := ⟨_, Try.func7, by kernel_rfl, by kernel_rfl⟩
instance : SCallee Try.prog 8 := ⟨_, Try.func8, by kernel_rfl, by kernel_rfl⟩
instance : SCallee Try.prog 9 := ⟨_, Try.func9, by kernel_rfl, by kernel_rfl⟩
instance : SCallee Try.prog 10 := ⟨_, Try.func10, by kernel_rfl, by kernel_rfl⟩
instance : SCallee Try.prog 11 := ⟨_, Try.func11, by kernel_rfl, by kernel_rfl⟩
instance : SCallee Try.prog 12 := ⟨_, Try.func12, by kernel_rfl, by kernel_rfl⟩
instance : SCallee Try.prog 13 := ⟨_, Try.func13, by kernel_rfl, by kernel_rfl⟩
instance : SCallee Try.prog 14 := ⟨_, Try.func14, by kernel_rfl, by kernel_rfl⟩
instance : SCallee Try.prog 15 := ⟨_, Try.func15, by kernel_rfl, by kernel_rfl⟩
instance : SCallee Try.prog 16 := ⟨_, Try.func16, by kernel_rfl, by kernel_rfl⟩
instance : SCallee Try.prog 17 := ⟨_, Try.func17, by kernel_rfl, by kernel_rfl⟩
instance : SCallee Try.prog 18 := ⟨_, Try.func18, by kernel_rfl, by kernel_rfl⟩
instance : SCallee Try.prog 19 := ⟨_, Try.func19, by kernel_rfl, by kernel_rfl⟩
instance : SCallee Try.prog 20 := ⟨_, Try.func20, by kernel_rfl, by kernel_rfl⟩
instance : SCallee Try.prog 21 := ⟨_, Try.func21, by kernel_rfl, by kernel_rfl⟩
instance : SCallee Try.prog 22 := ⟨_, Try.func22, by kernel_rfl, by kernel_rfl⟩
instance : SCallee Try.prog 23 := ⟨_, Try.func23, by kernel_rfl, by kernel_rfl⟩
instance : SCallee Try.prog 24 := ⟨_, Try.func24, by kernel_rfl, by kernel_rfl⟩
instance : SCallee Try.prog 25 := ⟨_, Try.func25, by kernel_rfl, by kernel_rfl⟩
instance : SCallee Try.prog 26 := ⟨_, Try.func26, by kernel_rfl, by kernel_rfl⟩
instance : SCallee Try.prog 27 := ⟨_, Try.func27, by kernel_rfl, by kernel_rfl⟩
instance : SCallee Try.prog 28 := ⟨_, Try.func28, by kernel_rfl, by kernel_rfl⟩
instance : SCallee Try.prog 29 := ⟨_, Try.func29, by kernel_rfl, by kernel_rfl⟩
instance : SCallee Try.prog 30 := ⟨_, Try.func30, by kernel_rfl, by kernel_rfl⟩
instance : SCallee Try.prog 31 := ⟨_, Try.func31, by kernel_rfl, by kernel_rfl⟩
instance : SCallee Try.prog 32 := ⟨_, Try.func32, by kernel_rfl, by kernel_rfl⟩
instance : SCallee Try.prog 33 := ⟨_, Try.func33, by kernel_rfl, by kernel_rfl⟩
instance : SCallee Try.prog 34 := ⟨_, Try.func34, by kernel_rfl, by kernel_rfl⟩
instance : SCallee Try.prog 35 := ⟨_, Try.func35, by kernel_rfl, by kernel_rfl⟩
instance : SCallee Try.prog 36 := ⟨_, Try.func36, by kernel_rfl, by kernel_rfl⟩
instance : SCallee Try.prog 37 := ⟨_, Try.func37, by kernel_rfl, by kernel_rfl⟩
instance : SCallee Try.prog 38 := ⟨_, Try.func38, by kernel_rfl, by kernel_rfl⟩
instance : SCallee Try.prog 39 := ⟨_, Try.func39, by kernel_rfl, by kernel_rfl⟩
instance : SCallee Try.prog 40 := ⟨_, Try.func40, by kernel_rfl, by kernel_rfl⟩
instance : SCallee Try.prog 41 := ⟨_, Try.func41, by kernel_rfl, by kernel_rfl⟩
instance : SCallee Try.prog 42 := ⟨_, Try.func42, by kernel_rfl, by kernel_rfl⟩
instance : SCallee Try.prog 43 := ⟨_, Try.func43, by kernel_rfl, by kernel_rfl⟩
instance : SCallee Try.prog 44 := ⟨_, Try.func44, by kernel_rfl, by kernel_rfl⟩
instance : SCallee Try.prog 45 := ⟨_, Try.func45, by kernel_rfl, by kernel_rfl⟩
instance : SCallee Try.prog 46 := ⟨_, Try.func46, by kernel_rfl, by kernel_rfl⟩
instance : SCallee Try.prog 47 := ⟨_, Try.func47, by kernel_rfl, by kernel_rfl⟩
instance : SCallee Try.prog 48 := ⟨_, Try.func48, by kernel_rfl, by kernel_rfl⟩
instance : SCallee Try.prog 49 := ⟨_, Try.func49, by kernel_rfl, by kernel_rfl⟩
instance : SCallee Try.prog 50 := ⟨_, Try.func50, by kernel_rfl, by kernel_rfl⟩
instance : SCallee Try.prog 51 := ⟨_, Try.func51, by kernel_rfl, by kernel_rfl⟩
instance : SCallee Try.prog 52 := ⟨_, Try.func52, by kernel_rfl, by kernel_rfl⟩
instance : SCallee Try.prog 53 := ⟨_, Try.func53, by kernel_rfl, by kernel_rfl⟩
instance : SCallee Try.prog 54 := ⟨_, Try.func54, by kernel_rfl, by kernel_rfl⟩
instance : SCallee Try.prog 55 := ⟨_, Try.func55, by kernel_rfl, by kernel_rfl⟩
instance : SCallee Try.prog 56 := ⟨_, Try.func56, by kernel_rfl, by kernel_rfl⟩
instance : SCallee Try.prog 57 := ⟨_, Try.func57, by kernel_rfl, by kernel_rfl⟩
instance : SCallee Try.prog 58 := ⟨_, Try.func58, by kernel_rfl, by kernel_rfl⟩
instance : SCallee Try.prog 59 := ⟨_, Try.func59, by kernel_rfl, by kernel_rfl⟩
instance : SCallee Try.prog 60 := ⟨_, Try.func60, by kernel_rfl, by kernel_rfl⟩
instance : SCallee Try.prog 61 := ⟨_, Try.func61, by kernel_rfl, by kernel_rfl⟩
instance : SCallee Try.prog 62 := ⟨_, Try.func62, by kernel_rfl, by kernel_rfl⟩
instance : SCallee Try.prog 63 := ⟨_, Try.func63, by kernel_rfl, by kernel_rfl⟩
instance : SCallee Try.prog 64 := ⟨_, Try.func64, by kernel_rfl, by kernel_rfl⟩
instance : SCallee Try.prog 65 := ⟨_, Try.func65, by kernel_rfl, by kernel_rfl⟩
instance : SCallee Try.prog 66 := ⟨_, Try.func66, by kernel_rfl, by kernel_rfl⟩
instance : SCallee Try.prog 67 := ⟨_, Try.func67, by kernel_rfl, by kernel_rfl⟩
instance : SCallee Try.prog 68 := ⟨_, Try.func68, by kernel_rfl, by kernel_rfl⟩
instance : SCallee Try.prog 69 := ⟨_, Try.func69, by kernel_rfl, by kernel_rfl⟩
instance : SCallee Try.prog 70 := ⟨_, Try.func70, by kernel_rfl, by kernel_rfl⟩
instance : SCallee Try.prog 71 := ⟨_, Try.func71, by kernel_rfl, by kernel_rfl⟩
instance : SCallee Try.prog 72 := ⟨_, Try.func72, by kernel_rfl, by kernel_rfl⟩
instance : SCallee Try.prog 73 := ⟨_, Try.func73, by kernel_rfl, by kernel_rfl⟩
instance : SCallee Try.prog 74 := ⟨_, Try.func74, by kernel_rfl, by kernel_rfl⟩
instance : SCallee Try.prog 75 := ⟨_, Try.func75, by kernel_rfl, by kernel_rfl⟩
instance : SCallee Try.prog 76 := ⟨_, Try.func76, by kernel_rfl, by kernel_rfl⟩
instance : SCallee Try.prog 77 := ⟨_, Try.func77, by kernel_rfl, by kernel_rfl⟩
instance : SCallee Try.prog 78 := ⟨_, Try.func78, by kernel_rfl, by kernel_rfl⟩
instance : SCallee Try.prog 79 := ⟨_, Try.func79, by kernel_rfl, by kernel_rfl⟩
instance : SCallee Try.prog 80 := ⟨_, Try.func80, by kernel_rfl, by kernel_rfl⟩
instance : SCallee Try.prog 81 := ⟨_, Try.func81, by kernel_rfl, by kernel_rfl⟩
instance : SCallee Try.prog 82 := ⟨_, Try.func82, by kernel_rfl, by kernel_rfl⟩
end Go.Proofs.Ytpalngamejeneaa
