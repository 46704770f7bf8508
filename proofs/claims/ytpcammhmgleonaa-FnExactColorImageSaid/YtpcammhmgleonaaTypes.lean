/-
  The facts on the types and functions of this seat that the engine looks up by instance. Printed by a program.
-/
import Derived.Test.YtpcammhmgleonaaProg
import Derived.Test.YtpcammhmgleonaaSx
import Derived.KernelRfl
namespace Go.Proofs.Ytpcammhmgleonaa
open Go Sx
abbrev sxu2 := SUnd.mk Try.underlying2
attribute [instance] sxu2
instance : SInf Try.prog 2 (.int .i64 0) 1 8 := ⟨by kernel_rfl⟩
abbrev sxu3 := SUnd.mk Try.underlying3
attribute [instance] sxu3
instance : SInf Try.prog 3 (.int .i64 0) 1 8 := ⟨by kernel_rfl⟩
abbrev sxu4 := SUnd.mk Try.underlying4
attribute [instance] sxu4
instance : SInf Try.prog 4 (.bool false) 1 1 := ⟨by kernel_rfl⟩
abbrev sxu5 := SUnd.mk Try.underlying5
attribute [instance] sxu5
instance : SInf Try.prog 5 (.int .u8 0) 1 1 := ⟨by kernel_rfl⟩
abbrev sxu9 := SUnd.mk Try.underlying9
attribute [instance] sxu9
instance : SInf Try.prog 9 (.string ⟨#[]⟩) 1 16 := ⟨by kernel_rfl⟩
abbrev sxu12 := SUnd.mk Try.underlying12
attribute [instance] sxu12
instance : SInf Try.prog 12 (.int .u64 0) 1 8 := ⟨by kernel_rfl⟩
abbrev sxu17 := SUnd.mk Try.underlying17
attribute [instance] sxu17
instance : SInf Try.prog 17 (.pointer none) 1 8 := ⟨by kernel_rfl⟩
abbrev sxu21 := SUnd.mk Try.underlying21
attribute [instance] sxu21
instance : SInf Try.prog 21 (.int .i32 0) 1 4 := ⟨by kernel_rfl⟩
abbrev sxu22 := SUnd.mk Try.underlying22
attribute [instance] sxu22
instance : SInf Try.prog 22 (.slice none 0 0) 1 24 := ⟨by kernel_rfl⟩
abbrev sxu24 := SUnd.mk Try.underlying24
attribute [instance] sxu24
instance : SInf Try.prog 24 (.slice none 0 0) 1 24 := ⟨by kernel_rfl⟩
abbrev sxu25 := SUnd.mk Try.underlying25
attribute [instance] sxu25
instance : SPl Try.prog 25 [(0, 1), (1, 1), (2, 1), (3, 1)] := ⟨_, Try.underlying25, by kernel_rfl⟩
instance : SFld Try.prog 25 0 0 := ⟨by kernel_rfl⟩
instance : SFld Try.prog 25 1 1 := ⟨by kernel_rfl⟩
instance : SFld Try.prog 25 2 2 := ⟨by kernel_rfl⟩
instance : SFld Try.prog 25 3 3 := ⟨by kernel_rfl⟩
instance : SInf Try.prog 25 (.agg #[.int .i64 0, .int .i64 0, .int .i64 0, .slice none 0 0]) 4 48 := ⟨by kernel_rfl⟩
abbrev sxu26 := SUnd.mk Try.underlying26
attribute [instance] sxu26
instance : SPl Try.prog 26 [(0, 1), (1, 1), (2, 1), (3, 1)] := ⟨_, Try.underlying26, by kernel_rfl⟩
instance : SFld Try.prog 26 0 0 := ⟨by kernel_rfl⟩
instance : SFld Try.prog 26 1 1 := ⟨by kernel_rfl⟩
instance : SFld Try.prog 26 2 2 := ⟨by kernel_rfl⟩
instance : SFld Try.prog 26 3 3 := ⟨by kernel_rfl⟩
instance : SInf Try.prog 26 (.agg #[.int .i64 0, .int .i64 0, .int .i64 0, .slice none 0 0]) 4 48 := ⟨by kernel_rfl⟩
abbrev sxu27 := SUnd.mk Try.underlying27
attribute [instance] sxu27
instance : SInf Try.prog 27 (.slice none 0 0) 1 24 := ⟨by kernel_rfl⟩
abbrev sxu32 := SUnd.mk Try.underlying32
attribute [instance] sxu32
instance : SInf Try.prog 32 (.slice none 0 0) 1 24 := ⟨by kernel_rfl⟩
abbrev sxu33 := SUnd.mk Try.underlying33
attribute [instance] sxu33
instance : SPl Try.prog 33 [(0, 1)] := ⟨_, Try.underlying33, by kernel_rfl⟩
instance : SFld Try.prog 33 0 0 := ⟨by kernel_rfl⟩
instance : SInf Try.prog 33 (.agg #[.slice none 0 0]) 1 24 := ⟨by kernel_rfl⟩
abbrev sxu34 := SUnd.mk Try.underlying34
attribute [instance] sxu34
instance : SPl Try.prog 34 [(0, 1)] := ⟨_, Try.underlying34, by kernel_rfl⟩
instance : SFld Try.prog 34 0 0 := ⟨by kernel_rfl⟩
instance : SInf Try.prog 34 (.agg #[.slice none 0 0]) 1 24 := ⟨by kernel_rfl⟩
abbrev sxu37 := SUnd.mk Try.underlying37
attribute [instance] sxu37
instance : SInf Try.prog 37 (.slice none 0 0) 1 24 := ⟨by kernel_rfl⟩
abbrev sxu38 := SUnd.mk Try.underlying38
attribute [instance] sxu38
instance : SPl Try.prog 38 [(0, 1), (1, 1), (2, 1)] := ⟨_, Try.underlying38, by kernel_rfl⟩
instance : SFld Try.prog 38 0 0 := ⟨by kernel_rfl⟩
instance : SFld Try.prog 38 1 1 := ⟨by kernel_rfl⟩
instance : SFld Try.prog 38 2 2 := ⟨by kernel_rfl⟩
instance : SInf Try.prog 38 (.agg #[.int .i64 0, .int .i64 0, .slice none 0 0]) 3 40 := ⟨by kernel_rfl⟩
abbrev sxu39 := SUnd.mk Try.underlying39
attribute [instance] sxu39
instance : SPl Try.prog 39 [(0, 1), (1, 1), (2, 1)] := ⟨_, Try.underlying39, by kernel_rfl⟩
instance : SFld Try.prog 39 0 0 := ⟨by kernel_rfl⟩
instance : SFld Try.prog 39 1 1 := ⟨by kernel_rfl⟩
instance : SFld Try.prog 39 2 2 := ⟨by kernel_rfl⟩
instance : SInf Try.prog 39 (.agg #[.int .i64 0, .int .i64 0, .slice none 0 0]) 3 40 := ⟨by kernel_rfl⟩
abbrev sxu46 := SUnd.mk Try.underlying46
attribute [instance] sxu46
instance : SPl Try.prog 46 [(0, 1), (1, 1)] := ⟨_, Try.underlying46, by kernel_rfl⟩
instance : SFld Try.prog 46 0 0 := ⟨by kernel_rfl⟩
instance : SFld Try.prog 46 1 1 := ⟨by kernel_rfl⟩
instance : SInf Try.prog 46 (.agg #[.slice none 0 0, .slice none 0 0]) 2 48 := ⟨by kernel_rfl⟩
abbrev sxu47 := SUnd.mk Try.underlying47
attribute [instance] sxu47
instance : SPl Try.prog 47 [(0, 1), (1, 1)] := ⟨_, Try.underlying47, by kernel_rfl⟩
instance : SFld Try.prog 47 0 0 := ⟨by kernel_rfl⟩
instance : SFld Try.prog 47 1 1 := ⟨by kernel_rfl⟩
instance : SInf Try.prog 47 (.agg #[.slice none 0 0, .slice none 0 0]) 2 48 := ⟨by kernel_rfl⟩
abbrev sxu48 := SUnd.mk Try.underlying48
attribute [instance] sxu48
instance : SPl Try.prog 48 [(0, 1), (1, 1), (2, 1)] := ⟨_, Try.underlying48, by kernel_rfl⟩
instance : SFld Try.prog 48 0 0 := ⟨by kernel_rfl⟩
instance : SFld Try.prog 48 1 1 := ⟨by kernel_rfl⟩
instance : SFld Try.prog 48 2 2 := ⟨by kernel_rfl⟩
instance : SInf Try.prog 48 (.agg #[.int .i64 0, .int .i64 0, .slice none 0 0]) 3 40 := ⟨by kernel_rfl⟩
abbrev sxu52 := SUnd.mk Try.underlying52
attribute [instance] sxu52
instance : SPl Try.prog 52 [(0, 1), (1, 1)] := ⟨_, Try.underlying52, by kernel_rfl⟩
instance : SFld Try.prog 52 0 0 := ⟨by kernel_rfl⟩
instance : SFld Try.prog 52 1 1 := ⟨by kernel_rfl⟩
instance : SInf Try.prog 52 (.agg #[.slice none 0 0, .slice none 0 0]) 2 48 := ⟨by kernel_rfl⟩
abbrev sxu61 := SUnd.mk Try.underlying61
attribute [instance] sxu61
instance : SPl Try.prog 61 [(0, 1), (1, 1), (2, 1), (3, 1), (4, 1), (5, 1), (6, 1), (7, 1), (8, 3)] := ⟨_, Try.underlying61, by kernel_rfl⟩
instance : SFld Try.prog 61 0 0 := ⟨by kernel_rfl⟩
instance : SFld Try.prog 61 1 1 := ⟨by kernel_rfl⟩
instance : SFld Try.prog 61 2 2 := ⟨by kernel_rfl⟩
instance : SFld Try.prog 61 3 3 := ⟨by kernel_rfl⟩
instance : SFld Try.prog 61 4 4 := ⟨by kernel_rfl⟩
instance : SFld Try.prog 61 5 5 := ⟨by kernel_rfl⟩
instance : SFld Try.prog 61 6 6 := ⟨by kernel_rfl⟩
instance : SFld Try.prog 61 7 7 := ⟨by kernel_rfl⟩
instance : SFld Try.prog 61 8 8 := ⟨by kernel_rfl⟩
instance : SInf Try.prog 61 (.agg #[.int .i64 0, .int .i64 0, .int .i64 0, .int .i64 0, .int .i64 0, .int .i64 0, .int .i64 0, .bool false, .int .i64 0, .int .i64 0, .slice none 0 0]) 11 104 := ⟨by kernel_rfl⟩
abbrev sxu62 := SUnd.mk Try.underlying62
attribute [instance] sxu62
instance : SPl Try.prog 62 [(0, 1), (1, 1), (2, 1), (3, 1), (4, 1), (5, 1), (6, 1), (7, 1), (8, 3)] := ⟨_, Try.underlying62, by kernel_rfl⟩
instance : SFld Try.prog 62 0 0 := ⟨by kernel_rfl⟩
instance : SFld Try.prog 62 1 1 := ⟨by kernel_rfl⟩
instance : SFld Try.prog 62 2 2 := ⟨by kernel_rfl⟩
instance : SFld Try.prog 62 3 3 := ⟨by kernel_rfl⟩
instance : SFld Try.prog 62 4 4 := ⟨by kernel_rfl⟩
instance : SFld Try.prog 62 5 5 := ⟨by kernel_rfl⟩
instance : SFld Try.prog 62 6 6 := ⟨by kernel_rfl⟩
instance : SFld Try.prog 62 7 7 := ⟨by kernel_rfl⟩
instance : SFld Try.prog 62 8 8 := ⟨by kernel_rfl⟩
instance : SInf Try.prog 62 (.agg #[.int .i64 0, .int .i64 0, .int .i64 0, .int .i64 0, .int .i64 0, .int .i64 0, .int .i64 0, .bool false, .int .i64 0, .int .i64 0, .slice none 0 0]) 11 104 := ⟨by kernel_rfl⟩
abbrev sxu66 := SUnd.mk Try.underlying66
attribute [instance] sxu66
instance : SPl Try.prog 66 [(0, 1), (1, 1), (2, 1), (3, 1), (4, 3)] := ⟨_, Try.underlying66, by kernel_rfl⟩
instance : SFld Try.prog 66 0 0 := ⟨by kernel_rfl⟩
instance : SFld Try.prog 66 1 1 := ⟨by kernel_rfl⟩
instance : SFld Try.prog 66 2 2 := ⟨by kernel_rfl⟩
instance : SFld Try.prog 66 3 3 := ⟨by kernel_rfl⟩
instance : SFld Try.prog 66 4 4 := ⟨by kernel_rfl⟩
instance : SInf Try.prog 66 (.agg #[.int .i64 0, .int .i64 0, .int .i64 0, .int .i64 0, .int .i64 0, .int .i64 0, .slice none 0 0]) 7 72 := ⟨by kernel_rfl⟩
abbrev sxu67 := SUnd.mk Try.underlying67
attribute [instance] sxu67
instance : SPl Try.prog 67 [(0, 1), (1, 1), (2, 1), (3, 1), (4, 3)] := ⟨_, Try.underlying67, by kernel_rfl⟩
instance : SFld Try.prog 67 0 0 := ⟨by kernel_rfl⟩
instance : SFld Try.prog 67 1 1 := ⟨by kernel_rfl⟩
instance : SFld Try.prog 67 2 2 := ⟨by kernel_rfl⟩
instance : SFld Try.prog 67 3 3 := ⟨by kernel_rfl⟩
instance : SFld Try.prog 67 4 4 := ⟨by kernel_rfl⟩
instance : SInf Try.prog 67 (.agg #[.int .i64 0, .int .i64 0, .int .i64 0, .int .i64 0, .int .i64 0, .int .i64 0, .slice none 0 0]) 7 72 := ⟨by kernel_rfl⟩
abbrev sxu72 := SUnd.mk Try.underlying72
attribute [instance] sxu72
instance : SPl Try.prog 72 [(0, 1), (1, 1), (2, 1), (3, 1)] := ⟨_, Try.underlying72, by kernel_rfl⟩
instance : SFld Try.prog 72 0 0 := ⟨by kernel_rfl⟩
instance : SFld Try.prog 72 1 1 := ⟨by kernel_rfl⟩
instance : SFld Try.prog 72 2 2 := ⟨by kernel_rfl⟩
instance : SFld Try.prog 72 3 3 := ⟨by kernel_rfl⟩
instance : SInf Try.prog 72 (.agg #[.int .i64 0, .int .i64 0, .int .i64 0, .int .i64 0]) 4 32 := ⟨by kernel_rfl⟩
abbrev sxu73 := SUnd.mk Try.underlying73
attribute [instance] sxu73
instance : SPl Try.prog 73 [(0, 1), (1, 1), (2, 1), (3, 1)] := ⟨_, Try.underlying73, by kernel_rfl⟩
instance : SFld Try.prog 73 0 0 := ⟨by kernel_rfl⟩
instance : SFld Try.prog 73 1 1 := ⟨by kernel_rfl⟩
instance : SFld Try.prog 73 2 2 := ⟨by kernel_rfl⟩
instance : SFld Try.prog 73 3 3 := ⟨by kernel_rfl⟩
instance : SInf Try.prog 73 (.agg #[.int .i64 0, .int .i64 0, .int .i64 0, .int .i64 0]) 4 32 := ⟨by kernel_rfl⟩
abbrev sxu83 := SUnd.mk Try.underlying83
attribute [instance] sxu83
instance : SInf Try.prog 83 (.pointer none) 1 8 := ⟨by kernel_rfl⟩
abbrev sxu88 := SUnd.mk Try.underlying88
attribute [instance] sxu88
instance : SInf Try.prog 88 (.agg #[.int .i64 0, .int .i64 0, .int .i64 0, .int .i64 0, .int .i64 0, .int .i64 0, .int .i64 0, .int .i64 0, .int .i64 0, .int .i64 0, .int .i64 0, .int .i64 0, .int .i64 0, .int .i64 0, .int .i64 0, .int .i64 0]) 16 128 := ⟨by kernel_rfl⟩
abbrev sxu89 := SUnd.mk Try.underlying89
attribute [instance] sxu89
instance : SInf Try.prog 89 (.agg #[.int .i64 0, .int .i64 0, .int .i64 0, .int .i64 0, .int .i64 0, .int .i64 0, .int .i64 0, .int .i64 0, .int .i64 0, .int .i64 0, .int .i64 0, .int .i64 0, .int .i64 0, .int .i64 0, .int .i64 0, .int .i64 0]) 16 128 := ⟨by kernel_rfl⟩
abbrev sxu105 := SUnd.mk Try.underlying105
attribute [instance] sxu105
instance : SInf Try.prog 105 (.map none) 1 8 := ⟨by kernel_rfl⟩
abbrev sxu108 := SUnd.mk Try.underlying108
attribute [instance] sxu108
instance : SInf Try.prog 108 (.pointer none) 1 8 := ⟨by kernel_rfl⟩
abbrev sxu114 := SUnd.mk Try.underlying114
attribute [instance] sxu114
instance : SInf Try.prog 114 (.int .u64 0) 1 8 := ⟨by kernel_rfl⟩
abbrev sxu120 := SUnd.mk Try.underlying120
attribute [instance] sxu120
instance : SPl Try.prog 120 [(0, 1), (1, 1), (2, 1)] := ⟨_, Try.underlying120, by kernel_rfl⟩
instance : SFld Try.prog 120 0 0 := ⟨by kernel_rfl⟩
instance : SFld Try.prog 120 1 1 := ⟨by kernel_rfl⟩
instance : SFld Try.prog 120 2 2 := ⟨by kernel_rfl⟩
instance : SInf Try.prog 120 (.agg #[.slice none 0 0, .int .i64 0, .int .i64 0]) 3 40 := ⟨by kernel_rfl⟩
abbrev sxu121 := SUnd.mk Try.underlying121
attribute [instance] sxu121
instance : SPl Try.prog 121 [(0, 1), (1, 1), (2, 1)] := ⟨_, Try.underlying121, by kernel_rfl⟩
instance : SFld Try.prog 121 0 0 := ⟨by kernel_rfl⟩
instance : SFld Try.prog 121 1 1 := ⟨by kernel_rfl⟩
instance : SFld Try.prog 121 2 2 := ⟨by kernel_rfl⟩
instance : SInf Try.prog 121 (.agg #[.slice none 0 0, .int .i64 0, .int .i64 0]) 3 40 := ⟨by kernel_rfl⟩
abbrev sxu128 := SUnd.mk Try.underlying128
attribute [instance] sxu128
instance : SInf Try.prog 128 (.pointer none) 1 8 := ⟨by kernel_rfl⟩
abbrev sxu136 := SUnd.mk Try.underlying136
attribute [instance] sxu136
instance : SInf Try.prog 136 (.slice none 0 0) 1 24 := ⟨by kernel_rfl⟩
abbrev sxu150 := SUnd.mk Try.underlying150
attribute [instance] sxu150
instance : SInf Try.prog 150 (.int .u32 0) 1 4 := ⟨by kernel_rfl⟩
abbrev sxu153 := SUnd.mk Try.underlying153
attribute [instance] sxu153
instance : SInf Try.prog 153 (.int .u64 0) 1 8 := ⟨by kernel_rfl⟩
abbrev sxu167 := SUnd.mk Try.underlying167
attribute [instance] sxu167
instance : SInf Try.prog 167 (.pointer none) 1 8 := ⟨by kernel_rfl⟩
abbrev sxu170 := SUnd.mk Try.underlying170
attribute [instance] sxu170
instance : SPl Try.prog 170 [(0, 1), (1, 1), (2, 1), (3, 1), (4, 1), (5, 1), (6, 1), (7, 1), (8, 1), (9, 1), (10, 1)] := ⟨_, Try.underlying170, by kernel_rfl⟩
instance : SFld Try.prog 170 0 0 := ⟨by kernel_rfl⟩
instance : SFld Try.prog 170 1 1 := ⟨by kernel_rfl⟩
instance : SFld Try.prog 170 2 2 := ⟨by kernel_rfl⟩
instance : SFld Try.prog 170 3 3 := ⟨by kernel_rfl⟩
instance : SFld Try.prog 170 4 4 := ⟨by kernel_rfl⟩
instance : SFld Try.prog 170 5 5 := ⟨by kernel_rfl⟩
instance : SFld Try.prog 170 6 6 := ⟨by kernel_rfl⟩
instance : SFld Try.prog 170 7 7 := ⟨by kernel_rfl⟩
instance : SFld Try.prog 170 8 8 := ⟨by kernel_rfl⟩
instance : SFld Try.prog 170 9 9 := ⟨by kernel_rfl⟩
instance : SFld Try.prog 170 10 10 := ⟨by kernel_rfl⟩
instance : SInf Try.prog 170 (.agg #[.int .u64 0, .int .u64 0, .int .u32 0, .int .u8 0, .int .u8 0, .int .u8 0, .int .u8 0, .nilFunc, .pointer none, .int .i32 0, .int .i32 0]) 11 48 := ⟨by kernel_rfl⟩
instance : SCallee Try.prog 3 := ⟨_, Try.func3, by kernel_rfl, by kernel_rfl⟩
instance : SCallee Try.prog 4 := ⟨_, Try.func4, by kernel_rfl, by kernel_rfl⟩
instance : SCallee Try.prog 5 := ⟨_, Try.func5, by kernel_rfl, by kernel_rfl⟩
instance : SCallee Try.prog 6 := ⟨_, Try.func6, by kernel_rfl, by kernel_rfl⟩
instance : SCallee Try.prog 7 := ⟨_, Try.func7, by kernel_rfl, by kernel_rfl⟩
instance : SCallee Try.prog 8 := ⟨_, Try.func8, by kernel_rfl, by kernel_rfl⟩
instance : SCallee Try.prog 9 := ⟨_, Try.func9, by kernel_rfl, by kernel_rfl⟩
instance : SCallee Try.prog 10 := ⟨_, Try.func10, by kernel_rfl, by kernel_rfl⟩
instance : SCallee Try.prog 11 := ⟨_, Try.func11, by kernel_rfl, by kernel_rfl⟩
instance : SCallee Try.prog 12 := ⟨_, Try.func12, by kernel_rfl, by kernel_rfl⟩
instance : SCallee Try.prog 13 := ⟨_, Try.func13, by kernel_rfl, by kernel_rfl⟩
instance : SCallee Try.prog 14 := ⟨_, Try.func14, by kernel_rfl, by kernel_rfl⟩
instance : SCallee Try.prog 15 := ⟨_, Try.func15, by kernel_rfl, by kernel_rfl⟩
instance : SCallee Try.prog 16 := ⟨_, Try.func16, by kernel_rfl, by kernel_rfl⟩
instance : SCallee Try.prog 17 := ⟨_, Try.func17, by kernel_rfl, by kernel_rfl⟩
instance : SCallee Try.prog 18 := ⟨_, Try.func18, by kernel_rfl, by kernel_rfl⟩
instance : SCallee Try.prog 19 := ⟨_, Try.func19, by kernel_rfl, by kernel_rfl⟩
instance : SCallee Try.prog 20 := ⟨_, Try.func20, by kernel_rfl, by kernel_rfl⟩
instance : SCallee Try.prog 21 := ⟨_, Try.func21, by kernel_rfl, by kernel_rfl⟩
instance : SCallee Try.prog 22 := ⟨_, Try.func22, by kernel_rfl, by kernel_rfl⟩
instance : SCallee Try.prog 23 := ⟨_, Try.func23, by kernel_rfl, by kernel_rfl⟩
instance : SCallee Try.prog 24 := ⟨_, Try.func24, by kernel_rfl, by kernel_rfl⟩
instance : SCallee Try.prog 25 := ⟨_, Try.func25, by kernel_rfl, by kernel_rfl⟩
instance : SCallee Try.prog 26 := ⟨_, Try.func26, by kernel_rfl, by kernel_rfl⟩
instance : SCallee Try.prog 27 := ⟨_, Try.func27, by kernel_rfl, by kernel_rfl⟩
instance : SCallee Try.prog 28 := ⟨_, Try.func28, by kernel_rfl, by kernel_rfl⟩
instance : SCallee Try.prog 29 := ⟨_, Try.func29, by kernel_rfl, by kernel_rfl⟩
instance : SCallee Try.prog 30 := ⟨_, Try.func30, by kernel_rfl, by kernel_rfl⟩
instance : SCallee Try.prog 31 := ⟨_, Try.func31, by kernel_rfl, by kernel_rfl⟩
instance : SCallee Try.prog 32 := ⟨_, Try.func32, by kernel_rfl, by kernel_rfl⟩
instance : SCallee Try.prog 33 := ⟨_, Try.func33, by kernel_rfl, by kernel_rfl⟩
instance : SCallee Try.prog 34 := ⟨_, Try.func34, by kernel_rfl, by kernel_rfl⟩
instance : SCallee Try.prog 35 := ⟨_, Try.func35, by kernel_rfl, by kernel_rfl⟩
instance : SCallee Try.prog 36 := ⟨_, Try.func36, by kernel_rfl, by kernel_rfl⟩
instance : SCallee Try.prog 37 := ⟨_, Try.func37, by kernel_rfl, by kernel_rfl⟩
instance : SCallee Try.prog 38 := ⟨_, Try.func38, by kernel_rfl, by kernel_rfl⟩
instance : SCallee Try.prog 39 := ⟨_, Try.func39, by kernel_rfl, by kernel_rfl⟩
instance : SCallee Try.prog 40 := ⟨_, Try.func40, by kernel_rfl, by kernel_rfl⟩
instance : SCallee Try.prog 41 := ⟨_, Try.func41, by kernel_rfl, by kernel_rfl⟩
instance : SCallee Try.prog 42 := ⟨_, Try.func42, by kernel_rfl, by kernel_rfl⟩
instance : SCallee Try.prog 43 := ⟨_, Try.func43, by kernel_rfl, by kernel_rfl⟩
instance : SCallee Try.prog 44 := ⟨_, Try.func44, by kernel_rfl, by kernel_rfl⟩
instance : SCallee Try.prog 45 := ⟨_, Try.func45, by kernel_rfl, by kernel_rfl⟩
instance : SCallee Try.prog 46 := ⟨_, Try.func46, by kernel_rfl, by kernel_rfl⟩
instance : SCallee Try.prog 47 := ⟨_, Try.func47, by kernel_rfl, by kernel_rfl⟩
instance : SCallee Try.prog 48 := ⟨_, Try.func48, by kernel_rfl, by kernel_rfl⟩
instance : SCallee Try.prog 49 := ⟨_, Try.func49, by kernel_rfl, by kernel_rfl⟩
instance : SCallee Try.prog 50 := ⟨_, Try.func50, by kernel_rfl, by kernel_rfl⟩
instance : SCallee Try.prog 51 := ⟨_, Try.func51, by kernel_rfl, by kernel_rfl⟩
instance : SCallee Try.prog 52 := ⟨_, Try.func52, by kernel_rfl, by kernel_rfl⟩
instance : SCallee Try.prog 53 := ⟨_, Try.func53, by kernel_rfl, by kernel_rfl⟩
instance : SCallee Try.prog 54 := ⟨_, Try.func54, by kernel_rfl, by kernel_rfl⟩
instance : SCallee Try.prog 55 := ⟨_, Try.func55, by kernel_rfl, by kernel_rfl⟩
instance : SCallee Try.prog 56 := ⟨_, Try.func56, by kernel_rfl, by kernel_rfl⟩
instance : SCallee Try.prog 57 := ⟨_, Try.func57, by kernel_rfl, by kernel_rfl⟩
instance : SCallee Try.prog 58 := ⟨_, Try.func58, by kernel_rfl, by kernel_rfl⟩
instance : SCallee Try.prog 59 := ⟨_, Try.func59, by kernel_rfl, by kernel_rfl⟩
instance : SCallee Try.prog 60 := ⟨_, Try.func60, by kernel_rfl, by kernel_rfl⟩
instance : SCallee Try.prog 61 := ⟨_, Try.func61, by kernel_rfl, by kernel_rfl⟩
instance : SCallee Try.prog 62 := ⟨_, Try.func62, by kernel_rfl, by kernel_rfl⟩
instance : SCallee Try.prog 63 := ⟨_, Try.func63, by kernel_rfl, by kernel_rfl⟩
instance : SCallee Try.prog 64 := ⟨_, Try.func64, by kernel_rfl, by kernel_rfl⟩
instance : SCallee Try.prog 65 := ⟨_, Try.func65, by kernel_rfl, by kernel_rfl⟩
instance : SCallee Try.prog 66 := ⟨_, Try.func66, by kernel_rfl, by kernel_rfl⟩
instance : SCallee Try.prog 67 := ⟨_, Try.func67, by kernel_rfl, by kernel_rfl⟩
instance : SCallee Try.prog 68 := ⟨_, Try.func68, by kernel_rfl, by kernel_rfl⟩
instance : SCallee Try.prog 69 := ⟨_, Try.func69, by kernel_rfl, by kernel_rfl⟩
instance : SCallee Try.prog 70 := ⟨_, Try.func70, by kernel_rfl, by kernel_rfl⟩
instance : SCallee Try.prog 71 := ⟨_, Try.func71, by kernel_rfl, by kernel_rfl⟩
instance : SCallee Try.prog 72 := ⟨_, Try.func72, by kernel_rfl, by kernel_rfl⟩
instance : SCallee Try.prog 73 := ⟨_, Try.func73, by kernel_rfl, by kernel_rfl⟩
instance : SCallee Try.prog 74 := ⟨_, Try.func74, by kernel_rfl, by kernel_rfl⟩
instance : SCallee Try.prog 75 := ⟨_, Try.func75, by kernel_rfl, by kernel_rfl⟩
instance : SCallee Try.prog 76 := ⟨_, Try.func76, by kernel_rfl, by kernel_rfl⟩
instance : SCallee Try.prog 77 := ⟨_, Try.func77, by kernel_rfl, by kernel_rfl⟩
instance : SCallee Try.prog 78 := ⟨_, Try.func78, by kernel_rfl, by kernel_rfl⟩
instance : SCallee Try.prog 79 := ⟨_, Try.func79, by kernel_rfl, by kernel_rfl⟩
instance : SCallee Try.prog 80 := ⟨_, Try.func80, by kernel_rfl, by kernel_rfl⟩
instance : SCallee Try.prog 81 := ⟨_, Try.func81, by kernel_rfl, by kernel_rfl⟩
instance : SCallee Try.prog 82 := ⟨_, Try.func82, by kernel_rfl, by kernel_rfl⟩
instance : SCallee Try.prog 83 := ⟨_, Try.func83, by kernel_rfl, by kernel_rfl⟩
instance : SCallee Try.prog 84 := ⟨_, Try.func84, by kernel_rfl, by kernel_rfl⟩
instance : SCallee Try.prog 85 := ⟨_, Try.func85, by kernel_rfl, by kernel_rfl⟩
instance : SCallee Try.prog 86 := ⟨_, Try.func86, by kernel_rfl, by kernel_rfl⟩
instance : SCallee Try.prog 87 := ⟨_, Try.func87, by kernel_rfl, by kernel_rfl⟩
instance : SCallee Try.prog 88 := ⟨_, Try.func88, by kernel_rfl, by kernel_rfl⟩
instance : SCallee Try.prog 89 := ⟨_, Try.func89, by kernel_rfl, by kernel_rfl⟩
instance : SCallee Try.prog 90 := ⟨_, Try.func90, by kernel_rfl, by kernel_rfl⟩
instance : SCallee Try.prog 91 := ⟨_, Try.func91, by kernel_rfl, by kernel_rfl⟩
instance : SCallee Try.prog 92 := ⟨_, Try.func92, by kernel_rfl, by kernel_rfl⟩
instance : SCallee Try.prog 93 := ⟨_, Try.func93, by kernel_rfl, by kernel_rfl⟩
instance : SCallee Try.prog 94 := ⟨_, Try.func94, by kernel_rfl, by kernel_rfl⟩
instance : SCallee Try.prog 95 := ⟨_, Try.func95, by kernel_rfl, by kernel_rfl⟩
instance : SCallee Try.prog 96 := ⟨_, Try.func96, by kernel_rfl, by kernel_rfl⟩
instance : SCallee Try.prog 97 := ⟨_, Try.func97, by kernel_rfl, by kernel_rfl⟩
instance : SCallee Try.prog 98 := ⟨_, Try.func98, by kernel_rfl, by kernel_rfl⟩
instance : SCallee Try.prog 99 := ⟨_, Try.func99, by kernel_rfl, by kernel_rfl⟩
instance : SCallee Try.prog 100 := ⟨_, Try.func100, by kernel_rfl, by kernel_rfl⟩
instance : SCallee Try.prog 101 := ⟨_, Try.func101, by kernel_rfl, by kernel_rfl⟩
instance : SCallee Try.prog 102 := ⟨_, Try.func102, by kernel_rfl, by kernel_rfl⟩
instance : SCallee Try.prog 103 := ⟨_, Try.func103, by kernel_rfl, by kernel_rfl⟩
instance : SCallee Try.prog 104 := ⟨_, Try.func104, by kernel_rfl, by kernel_rfl⟩
instance : SCallee Try.prog 105 := ⟨_, Try.func105, by kernel_rfl, by kernel_rfl⟩
instance : SCallee Try.prog 106 := ⟨_, Try.func106, by kernel_rfl, by kernel_rfl⟩
instance : SCallee Try.prog 107 := ⟨_, Try.func107, by kernel_rfl, by kernel_rfl⟩
instance : SCallee Try.prog 108 := ⟨_, Try.func108, by kernel_rfl, by kernel_rfl⟩
instance : SCallee Try.prog 109 := ⟨_, Try.func109, by kernel_rfl, by kernel_rfl⟩
instance : SCallee Try.prog 110 := ⟨_, Try.func110, by kernel_rfl, by kernel_rfl⟩
instance : SCallee Try.prog 111 := ⟨_, Try.func111, by kernel_rfl, by kernel_rfl⟩
instance : SCallee Try.prog 112 := ⟨_, Try.func112, by kernel_rfl, by kernel_rfl⟩
instance : SCallee Try.prog 113 := ⟨_, Try.func113, by kernel_rfl, by kernel_rfl⟩
instance : SCallee Try.prog 114 := ⟨_, Try.func114, by kernel_rfl, by kernel_rfl⟩
instance : SCallee Try.prog 115 := ⟨_, Try.func115, by kernel_rfl, by kernel_rfl⟩
instance : SCallee Try.prog 116 := ⟨_, Try.func116, by kernel_rfl, by kernel_rfl⟩
instance : SCallee Try.prog 117 := ⟨_, Try.func117, by kernel_rfl, by kernel_rfl⟩
instance : SCallee Try.prog 118 := ⟨_, Try.func118, by kernel_rfl, by kernel_rfl⟩
instance : SCallee Try.prog 119 := ⟨_, Try.func119, by kernel_rfl, by kernel_rfl⟩
instance : SCallee Try.prog 120 := ⟨_, Try.func120, by kernel_rfl, by kernel_rfl⟩
instance : SCallee Try.prog 121 := ⟨_, Try.func121, by kernel_rfl, by kernel_rfl⟩
instance : SCallee Try.prog 122 := ⟨_, Try.func122, by kernel_rfl, by kernel_rfl⟩
instance : SCallee Try.prog 123 := ⟨_, Try.func123, by kernel_rfl, by kernel_rfl⟩
instance : SCallee Try.prog 124 := ⟨_, Try.func124, by kernel_rfl, by kernel_rfl⟩
instance : SCallee Try.prog 125 := ⟨_, Try.func125, by kernel_rfl, by kernel_rfl⟩
instance : SCallee Try.prog 126 := ⟨_, Try.func126, by kernel_rfl, by kernel_rfl⟩
instance : SCallee Try.prog 127 := ⟨_, Try.func127, by kernel_rfl, by kernel_rfl⟩
instance : SCallee Try.prog 128 := ⟨_, Try.func128, by kernel_rfl, by kernel_rfl⟩
instance : SCallee Try.prog 129 := ⟨_, Try.func129, by kernel_rfl, by kernel_rfl⟩
instance : SCallee Try.prog 130 := ⟨_, Try.func130, by kernel_rfl, by kernel_rfl⟩
instance : SCallee Try.prog 131 := ⟨_, Try.func131, by kernel_rfl, by kernel_rfl⟩
instance : SCallee Try.prog 132 := ⟨_, Try.func132, by kernel_rfl, by kernel_rfl⟩
instance : SCallee Try.prog 133 := ⟨_, Try.func133, by kernel_rfl, by kernel_rfl⟩
instance : SCallee Try.prog 134 := ⟨_, Try.func134, by kernel_rfl, by kernel_rfl⟩
instance : SCallee Try.prog 135 := ⟨_, Try.func135, by kernel_rfl, by kernel_rfl⟩
instance : SCallee Try.prog 136 := ⟨_, Try.func136, by kernel_rfl, by kernel_rfl⟩
instance : SCallee Try.prog 137 := ⟨_, Try.func137, by kernel_rfl, by kernel_rfl⟩
instance : SCallee Try.prog 138 := ⟨_, Try.func138, by kernel_rfl, by kernel_rfl⟩
instance : SCallee Try.prog 139 := ⟨_, Try.func139, by kernel_rfl, by kernel_rfl⟩
instance : SCallee Try.prog 140 := ⟨_, Try.func140, by kernel_rfl, by kernel_rfl⟩
instance : SCallee Try.prog 141 := ⟨_, Try.func141, by kernel_rfl, by kernel_rfl⟩
instance : SCallee Try.prog 142 := ⟨_, Try.func142, by kernel_rfl, by kernel_rfl⟩
instance : SCallee Try.prog 143 := ⟨_, Try.func143, by kernel_rfl, by kernel_rfl⟩
instance : SCallee Try.prog 144 := ⟨_, Try.func144, by kernel_rfl, by kernel_rfl⟩
instance : SCallee Try.prog 145 := ⟨_, Try.func145, by kernel_rfl, by kernel_rfl⟩
instance : SCallee Try.prog 146 := ⟨_, Try.func146, by kernel_rfl, by kernel_rfl⟩
instance : SCallee Try.prog 147 := ⟨_, Try.func147, by kernel_rfl, by kernel_rfl⟩
instance : SCallee Try.prog 148 := ⟨_, Try.func148, by kernel_rfl, by kernel_rfl⟩
instance : SCallee Try.prog 149 := ⟨_, Try.func149, by kernel_rfl, by kernel_rfl⟩
instance : SCallee Try.prog 150 := ⟨_, Try.func150, by kernel_rfl, by kernel_rfl⟩
instance : SCallee Try.prog 151 := ⟨_, Try.func151, by kernel_rfl, by kernel_rfl⟩
instance : SCallee Try.prog 152 := ⟨_, Try.func152, by kernel_rfl, by kernel_rfl⟩
instance : SCallee Try.prog 153 := ⟨_, Try.func153, by kernel_rfl, by kernel_rfl⟩
instance : SCallee Try.prog 154 := ⟨_, Try.func154, by kernel_rfl, by kernel_rfl⟩
instance : SCallee Try.prog 155 := ⟨_, Try.func155, by kernel_rfl, by kernel_rfl⟩
instance : SCallee Try.prog 156 := ⟨_, Try.func156, by kernel_rfl, by kernel_rfl⟩
instance : SCallee Try.prog 157 := ⟨_, Try.func157, by kernel_rfl, by kernel_rfl⟩
instance : SCallee Try.prog 158 := ⟨_, Try.func158, by kernel_rfl, by kernel_rfl⟩
instance : SCallee Try.prog 159 := ⟨_, Try.func159, by kernel_rfl, by kernel_rfl⟩
instance : SCallee Try.prog 160 := ⟨_, Try.func160, by kernel_rfl, by kernel_rfl⟩
instance : SCallee Try.prog 162 := ⟨_, Try.func162, by kernel_rfl, by kernel_rfl⟩
instance : SCallee Try.prog 163 := ⟨_, Try.func163, by kernel_rfl, by kernel_rfl⟩
instance : SCallee Try.prog 164 := ⟨_, Try.func164, by kernel_rfl, by kernel_rfl⟩
instance : SCallee Try.prog 165 := ⟨_, Try.func165, by kernel_rfl, by kernel_rfl⟩
instance : SCallee Try.prog 166 := ⟨_, Try.func166, by kernel_rfl, by kernel_rfl⟩
instance : SCallee Try.prog 167 := ⟨_, Try.func167, by kernel_rfl, by kernel_rfl⟩
instance : SCallee Try.prog 168 := ⟨_, Try.func168, by kernel_rfl, by kernel_rfl⟩
instance : SCallee Try.prog 169 := ⟨_, Try.func169, by kernel_rfl, by kernel_rfl⟩
instance : SCallee Try.prog 170 := ⟨_, Try.func170, by kernel_rfl, by kernel_rfl⟩
instance : SCallee Try.prog 171 := ⟨_, Try.func171, by kernel_rfl, by kernel_rfl⟩
instance : SCallee Try.prog 172 := ⟨_, Try.func172, by kernel_rfl, by kernel_rfl⟩
instance : SCallee Try.prog 173 := ⟨_, Try.func173, by kernel_rfl, by kernel_rfl⟩
instance : SCallee Try.prog 174 := ⟨_, Try.func174, by kernel_rfl, by kernel_rfl⟩
instance : SCallee Try.prog 175 := ⟨_, Try.func175, by kernel_rfl, by kernel_rfl⟩
instance : SCallee Try.prog 176 := ⟨_, Try.func176, by kernel_rfl, by kernel_rfl⟩
instance : SCallee Try.prog 177 := ⟨_, Try.func177, by kernel_rfl, by kernel_rfl⟩
end Go.Proofs.Ytpcammhmgleonaa
