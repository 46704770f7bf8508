/-
  The facts on the types and functions of this seat that the engine looks up by instance. Printed by a program.
-/
import Derived.Test.YtpcammhmgleonaaGreatProg
import Derived.Test.YtpcammhmgleonaaGreatSx
import Derived.KernelRfl
namespace Go.Proofs.YtpcammhmgleonaaGreat
open Go Sx
abbrev sxu2 := SUnd.mk Tryz.underlying2
attribute [instance] sxu2
instance : SInf Tryz.prog 2 (.int .i64 0) 1 8 := ⟨by kernel_rfl⟩
abbrev sxu3 := SUnd.mk Tryz.underlying3
attribute [instance] sxu3
instance : SInf Tryz.prog 3 (.int .i64 0) 1 8 := ⟨by kernel_rfl⟩
abbrev sxu4 := SUnd.mk Tryz.underlying4
attribute [instance] sxu4
instance : SInf Tryz.prog 4 (.bool false) 1 1 := ⟨by kernel_rfl⟩
abbrev sxu5 := SUnd.mk Tryz.underlying5
attribute [instance] sxu5
instance : SInf Tryz.prog 5 (.int .u8 0) 1 1 := ⟨by kernel_rfl⟩
abbrev sxu9 := SUnd.mk Tryz.underlying9
attribute [instance] sxu9
instance : SInf Tryz.prog 9 (.string ⟨#[]⟩) 1 16 := ⟨by kernel_rfl⟩
abbrev sxu12 := SUnd.mk Tryz.underlying12
attribute [instance] sxu12
instance : SInf Tryz.prog 12 (.int .u64 0) 1 8 := ⟨by kernel_rfl⟩
abbrev sxu17 := SUnd.mk Tryz.underlying17
attribute [instance] sxu17
instance : SInf Tryz.prog 17 (.pointer none) 1 8 := ⟨by kernel_rfl⟩
abbrev sxu21 := SUnd.mk Tryz.underlying21
attribute [instance] sxu21
instance : SInf Tryz.prog 21 (.int .i32 0) 1 4 := ⟨by kernel_rfl⟩
abbrev sxu22 := SUnd.mk Tryz.underlying22
attribute [instance] sxu22
instance : SInf Tryz.prog 22 (.slice none 0 0) 1 24 := ⟨by kernel_rfl⟩
abbrev sxu24 := SUnd.mk Tryz.underlying24
attribute [instance] sxu24
instance : SInf Tryz.prog 24 (.slice none 0 0) 1 24 := ⟨by kernel_rfl⟩
abbrev sxu25 := SUnd.mk Tryz.underlying25
attribute [instance] sxu25
instance : SPl Tryz.prog 25 [(0, 1), (1, 1), (2, 1), (3, 1)] := ⟨_, Tryz.underlying25, by kernel_rfl⟩
instance : SFld Tryz.prog 25 0 0 := ⟨by kernel_rfl⟩
instance : SFld Tryz.prog 25 1 1 := ⟨by kernel_rfl⟩
instance : SFld Tryz.prog 25 2 2 := ⟨by kernel_rfl⟩
instance : SFld Tryz.prog 25 3 3 := ⟨by kernel_rfl⟩
instance : SInf Tryz.prog 25 (.agg #[.int .i64 0, .int .i64 0, .int .i64 0, .slice none 0 0]) 4 48 := ⟨by kernel_rfl⟩
abbrev sxu26 := SUnd.mk Tryz.underlying26
attribute [instance] sxu26
instance : SPl Tryz.prog 26 [(0, 1), (1, 1), (2, 1), (3, 1)] := ⟨_, Tryz.underlying26, by kernel_rfl⟩
instance : SFld Tryz.prog 26 0 0 := ⟨by kernel_rfl⟩
instance : SFld Tryz.prog 26 1 1 := ⟨by kernel_rfl⟩
instance : SFld Tryz.prog 26 2 2 := ⟨by kernel_rfl⟩
instance : SFld Tryz.prog 26 3 3 := ⟨by kernel_rfl⟩
instance : SInf Tryz.prog 26 (.agg #[.int .i64 0, .int .i64 0, .int .i64 0, .slice none 0 0]) 4 48 := ⟨by kernel_rfl⟩
abbrev sxu27 := SUnd.mk Tryz.underlying27
attribute [instance] sxu27
instance : SInf Tryz.prog 27 (.slice none 0 0) 1 24 := ⟨by kernel_rfl⟩
abbrev sxu30 := SUnd.mk Tryz.underlying30
attribute [instance] sxu30
instance : SInf Tryz.prog 30 (.slice none 0 0) 1 24 := ⟨by kernel_rfl⟩
abbrev sxu31 := SUnd.mk Tryz.underlying31
attribute [instance] sxu31
instance : SInf Tryz.prog 31 (.slice none 0 0) 1 24 := ⟨by kernel_rfl⟩
abbrev sxu32 := SUnd.mk Tryz.underlying32
attribute [instance] sxu32
instance : SInf Tryz.prog 32 (.slice none 0 0) 1 24 := ⟨by kernel_rfl⟩
abbrev sxu33 := SUnd.mk Tryz.underlying33
attribute [instance] sxu33
instance : SPl Tryz.prog 33 [(0, 1), (1, 1), (2, 1), (3, 4)] := ⟨_, Tryz.underlying33, by kernel_rfl⟩
instance : SFld Tryz.prog 33 0 0 := ⟨by kernel_rfl⟩
instance : SFld Tryz.prog 33 1 1 := ⟨by kernel_rfl⟩
instance : SFld Tryz.prog 33 2 2 := ⟨by kernel_rfl⟩
instance : SFld Tryz.prog 33 3 3 := ⟨by kernel_rfl⟩
instance : SInf Tryz.prog 33 (.agg #[.slice none 0 0, .slice none 0 0, .slice none 0 0, .int .i64 0, .int .i64 0, .int .i64 0, .slice none 0 0]) 7 120 := ⟨by kernel_rfl⟩
abbrev sxu34 := SUnd.mk Tryz.underlying34
attribute [instance] sxu34
instance : SPl Tryz.prog 34 [(0, 1), (1, 1), (2, 1), (3, 4)] := ⟨_, Tryz.underlying34, by kernel_rfl⟩
instance : SFld Tryz.prog 34 0 0 := ⟨by kernel_rfl⟩
instance : SFld Tryz.prog 34 1 1 := ⟨by kernel_rfl⟩
instance : SFld Tryz.prog 34 2 2 := ⟨by kernel_rfl⟩
instance : SFld Tryz.prog 34 3 3 := ⟨by kernel_rfl⟩
instance : SInf Tryz.prog 34 (.agg #[.slice none 0 0, .slice none 0 0, .slice none 0 0, .int .i64 0, .int .i64 0, .int .i64 0, .slice none 0 0]) 7 120 := ⟨by kernel_rfl⟩
abbrev sxu39 := SUnd.mk Tryz.underlying39
attribute [instance] sxu39
instance : SInf Tryz.prog 39 (.slice none 0 0) 1 24 := ⟨by kernel_rfl⟩
abbrev sxu41 := SUnd.mk Tryz.underlying41
attribute [instance] sxu41
instance : SInf Tryz.prog 41 (.slice none 0 0) 1 24 := ⟨by kernel_rfl⟩
abbrev sxu42 := SUnd.mk Tryz.underlying42
attribute [instance] sxu42
instance : SPl Tryz.prog 42 [(0, 1)] := ⟨_, Tryz.underlying42, by kernel_rfl⟩
instance : SFld Tryz.prog 42 0 0 := ⟨by kernel_rfl⟩
instance : SInf Tryz.prog 42 (.agg #[.slice none 0 0]) 1 24 := ⟨by kernel_rfl⟩
abbrev sxu43 := SUnd.mk Tryz.underlying43
attribute [instance] sxu43
instance : SPl Tryz.prog 43 [(0, 1)] := ⟨_, Tryz.underlying43, by kernel_rfl⟩
instance : SFld Tryz.prog 43 0 0 := ⟨by kernel_rfl⟩
instance : SInf Tryz.prog 43 (.agg #[.slice none 0 0]) 1 24 := ⟨by kernel_rfl⟩
abbrev sxu48 := SUnd.mk Tryz.underlying48
attribute [instance] sxu48
instance : SPl Tryz.prog 48 [(0, 1), (1, 1), (2, 1)] := ⟨_, Tryz.underlying48, by kernel_rfl⟩
instance : SFld Tryz.prog 48 0 0 := ⟨by kernel_rfl⟩
instance : SFld Tryz.prog 48 1 1 := ⟨by kernel_rfl⟩
instance : SFld Tryz.prog 48 2 2 := ⟨by kernel_rfl⟩
instance : SInf Tryz.prog 48 (.agg #[.int .i64 0, .int .i64 0, .slice none 0 0]) 3 40 := ⟨by kernel_rfl⟩
abbrev sxu49 := SUnd.mk Tryz.underlying49
attribute [instance] sxu49
instance : SPl Tryz.prog 49 [(0, 1), (1, 1), (2, 1)] := ⟨_, Tryz.underlying49, by kernel_rfl⟩
instance : SFld Tryz.prog 49 0 0 := ⟨by kernel_rfl⟩
instance : SFld Tryz.prog 49 1 1 := ⟨by kernel_rfl⟩
instance : SFld Tryz.prog 49 2 2 := ⟨by kernel_rfl⟩
instance : SInf Tryz.prog 49 (.agg #[.int .i64 0, .int .i64 0, .slice none 0 0]) 3 40 := ⟨by kernel_rfl⟩
abbrev sxu54 := SUnd.mk Tryz.underlying54
attribute [instance] sxu54
instance : SInf Tryz.prog 54 (.pointer none) 1 8 := ⟨by kernel_rfl⟩
abbrev sxu65 := SUnd.mk Tryz.underlying65
attribute [instance] sxu65
instance : SPl Tryz.prog 65 [(0, 1), (1, 1), (2, 1), (3, 1), (4, 3)] := ⟨_, Tryz.underlying65, by kernel_rfl⟩
instance : SFld Tryz.prog 65 0 0 := ⟨by kernel_rfl⟩
instance : SFld Tryz.prog 65 1 1 := ⟨by kernel_rfl⟩
instance : SFld Tryz.prog 65 2 2 := ⟨by kernel_rfl⟩
instance : SFld Tryz.prog 65 3 3 := ⟨by kernel_rfl⟩
instance : SFld Tryz.prog 65 4 4 := ⟨by kernel_rfl⟩
instance : SInf Tryz.prog 65 (.agg #[.int .i64 0, .int .i64 0, .int .i64 0, .int .i64 0, .int .i64 0, .int .i64 0, .slice none 0 0]) 7 72 := ⟨by kernel_rfl⟩
abbrev sxu66 := SUnd.mk Tryz.underlying66
attribute [instance] sxu66
instance : SPl Tryz.prog 66 [(0, 1), (1, 1), (2, 1), (3, 1), (4, 3)] := ⟨_, Tryz.underlying66, by kernel_rfl⟩
instance : SFld Tryz.prog 66 0 0 := ⟨by kernel_rfl⟩
instance : SFld Tryz.prog 66 1 1 := ⟨by kernel_rfl⟩
instance : SFld Tryz.prog 66 2 2 := ⟨by kernel_rfl⟩
instance : SFld Tryz.prog 66 3 3 := ⟨by kernel_rfl⟩
instance : SFld Tryz.prog 66 4 4 := ⟨by kernel_rfl⟩
instance : SInf Tryz.prog 66 (.agg #[.int .i64 0, .int .i64 0, .int .i64 0, .int .i64 0, .int .i64 0, .int .i64 0, .slice none 0 0]) 7 72 := ⟨by kernel_rfl⟩
abbrev sxu67 := SUnd.mk Tryz.underlying67
attribute [instance] sxu67
instance : SInf Tryz.prog 67 (.agg #[.int .i64 0, .int .i64 0, .int .i64 0, .int .i64 0, .int .i64 0, .int .i64 0, .int .i64 0, .int .i64 0, .int .i64 0, .int .i64 0, .int .i64 0, .int .i64 0, .int .i64 0, .int .i64 0, .int .i64 0, .int .i64 0]) 16 128 := ⟨by kernel_rfl⟩
abbrev sxu68 := SUnd.mk Tryz.underlying68
attribute [instance] sxu68
instance : SInf Tryz.prog 68 (.agg #[.int .i64 0, .int .i64 0, .int .i64 0, .int .i64 0, .int .i64 0, .int .i64 0, .int .i64 0, .int .i64 0, .int .i64 0, .int .i64 0, .int .i64 0, .int .i64 0, .int .i64 0, .int .i64 0, .int .i64 0, .int .i64 0]) 16 128 := ⟨by kernel_rfl⟩
abbrev sxu80 := SUnd.mk Tryz.underlying80
attribute [instance] sxu80
instance : SPl Tryz.prog 80 [(0, 1), (1, 1), (2, 1), (3, 1)] := ⟨_, Tryz.underlying80, by kernel_rfl⟩
instance : SFld Tryz.prog 80 0 0 := ⟨by kernel_rfl⟩
instance : SFld Tryz.prog 80 1 1 := ⟨by kernel_rfl⟩
instance : SFld Tryz.prog 80 2 2 := ⟨by kernel_rfl⟩
instance : SFld Tryz.prog 80 3 3 := ⟨by kernel_rfl⟩
instance : SInf Tryz.prog 80 (.agg #[.int .i64 0, .int .i64 0, .int .i64 0, .int .i64 0]) 4 32 := ⟨by kernel_rfl⟩
abbrev sxu81 := SUnd.mk Tryz.underlying81
attribute [instance] sxu81
instance : SPl Tryz.prog 81 [(0, 1), (1, 1), (2, 1), (3, 1)] := ⟨_, Tryz.underlying81, by kernel_rfl⟩
instance : SFld Tryz.prog 81 0 0 := ⟨by kernel_rfl⟩
instance : SFld Tryz.prog 81 1 1 := ⟨by kernel_rfl⟩
instance : SFld Tryz.prog 81 2 2 := ⟨by kernel_rfl⟩
instance : SFld Tryz.prog 81 3 3 := ⟨by kernel_rfl⟩
instance : SInf Tryz.prog 81 (.agg #[.int .i64 0, .int .i64 0, .int .i64 0, .int .i64 0]) 4 32 := ⟨by kernel_rfl⟩
abbrev sxu82 := SUnd.mk Tryz.underlying82
attribute [instance] sxu82
instance : SPl Tryz.prog 82 [(0, 1), (1, 1), (2, 1)] := ⟨_, Tryz.underlying82, by kernel_rfl⟩
instance : SFld Tryz.prog 82 0 0 := ⟨by kernel_rfl⟩
instance : SFld Tryz.prog 82 1 1 := ⟨by kernel_rfl⟩
instance : SFld Tryz.prog 82 2 2 := ⟨by kernel_rfl⟩
instance : SInf Tryz.prog 82 (.agg #[.slice none 0 0, .int .i64 0, .int .i64 0]) 3 40 := ⟨by kernel_rfl⟩
abbrev sxu83 := SUnd.mk Tryz.underlying83
attribute [instance] sxu83
instance : SPl Tryz.prog 83 [(0, 1), (1, 1), (2, 1)] := ⟨_, Tryz.underlying83, by kernel_rfl⟩
instance : SFld Tryz.prog 83 0 0 := ⟨by kernel_rfl⟩
instance : SFld Tryz.prog 83 1 1 := ⟨by kernel_rfl⟩
instance : SFld Tryz.prog 83 2 2 := ⟨by kernel_rfl⟩
instance : SInf Tryz.prog 83 (.agg #[.slice none 0 0, .int .i64 0, .int .i64 0]) 3 40 := ⟨by kernel_rfl⟩
abbrev sxu87 := SUnd.mk Tryz.underlying87
attribute [instance] sxu87
instance : SPl Tryz.prog 87 [(0, 1), (1, 1), (2, 1), (3, 1), (4, 1), (5, 1), (6, 1), (7, 1), (8, 3)] := ⟨_, Tryz.underlying87, by kernel_rfl⟩
instance : SFld Tryz.prog 87 0 0 := ⟨by kernel_rfl⟩
instance : SFld Tryz.prog 87 1 1 := ⟨by kernel_rfl⟩
instance : SFld Tryz.prog 87 2 2 := ⟨by kernel_rfl⟩
instance : SFld Tryz.prog 87 3 3 := ⟨by kernel_rfl⟩
instance : SFld Tryz.prog 87 4 4 := ⟨by kernel_rfl⟩
instance : SFld Tryz.prog 87 5 5 := ⟨by kernel_rfl⟩
instance : SFld Tryz.prog 87 6 6 := ⟨by kernel_rfl⟩
instance : SFld Tryz.prog 87 7 7 := ⟨by kernel_rfl⟩
instance : SFld Tryz.prog 87 8 8 := ⟨by kernel_rfl⟩
instance : SInf Tryz.prog 87 (.agg #[.int .i64 0, .int .i64 0, .int .i64 0, .int .i64 0, .int .i64 0, .int .i64 0, .int .i64 0, .bool false, .int .i64 0, .int .i64 0, .slice none 0 0]) 11 104 := ⟨by kernel_rfl⟩
abbrev sxu88 := SUnd.mk Tryz.underlying88
attribute [instance] sxu88
instance : SPl Tryz.prog 88 [(0, 1), (1, 1), (2, 1), (3, 1), (4, 1), (5, 1), (6, 1), (7, 1), (8, 3)] := ⟨_, Tryz.underlying88, by kernel_rfl⟩
instance : SFld Tryz.prog 88 0 0 := ⟨by kernel_rfl⟩
instance : SFld Tryz.prog 88 1 1 := ⟨by kernel_rfl⟩
instance : SFld Tryz.prog 88 2 2 := ⟨by kernel_rfl⟩
instance : SFld Tryz.prog 88 3 3 := ⟨by kernel_rfl⟩
instance : SFld Tryz.prog 88 4 4 := ⟨by kernel_rfl⟩
instance : SFld Tryz.prog 88 5 5 := ⟨by kernel_rfl⟩
instance : SFld Tryz.prog 88 6 6 := ⟨by kernel_rfl⟩
instance : SFld Tryz.prog 88 7 7 := ⟨by kernel_rfl⟩
instance : SFld Tryz.prog 88 8 8 := ⟨by kernel_rfl⟩
instance : SInf Tryz.prog 88 (.agg #[.int .i64 0, .int .i64 0, .int .i64 0, .int .i64 0, .int .i64 0, .int .i64 0, .int .i64 0, .bool false, .int .i64 0, .int .i64 0, .slice none 0 0]) 11 104 := ⟨by kernel_rfl⟩
abbrev sxu91 := SUnd.mk Tryz.underlying91
attribute [instance] sxu91
instance : SInf Tryz.prog 91 (.map none) 1 8 := ⟨by kernel_rfl⟩
abbrev sxu114 := SUnd.mk Tryz.underlying114
attribute [instance] sxu114
instance : SInf Tryz.prog 114 (.int .u64 0) 1 8 := ⟨by kernel_rfl⟩
abbrev sxu127 := SUnd.mk Tryz.underlying127
attribute [instance] sxu127
instance : SInf Tryz.prog 127 (.int .u32 0) 1 4 := ⟨by kernel_rfl⟩
abbrev sxu130 := SUnd.mk Tryz.underlying130
attribute [instance] sxu130
instance : SInf Tryz.prog 130 (.int .u64 0) 1 8 := ⟨by kernel_rfl⟩
abbrev sxu147 := SUnd.mk Tryz.underlying147
attribute [instance] sxu147
instance : SInf Tryz.prog 147 (.pointer none) 1 8 := ⟨by kernel_rfl⟩
abbrev sxu150 := SUnd.mk Tryz.underlying150
attribute [instance] sxu150
instance : SPl Tryz.prog 150 [(0, 1), (1, 1), (2, 1), (3, 1), (4, 1), (5, 1), (6, 1), (7, 1), (8, 1), (9, 1), (10, 1)] := ⟨_, Tryz.underlying150, by kernel_rfl⟩
instance : SFld Tryz.prog 150 0 0 := ⟨by kernel_rfl⟩
instance : SFld Tryz.prog 150 1 1 := ⟨by kernel_rfl⟩
instance : SFld Tryz.prog 150 2 2 := ⟨by kernel_rfl⟩
instance : SFld Tryz.prog 150 3 3 := ⟨by kernel_rfl⟩
instance : SFld Tryz.prog 150 4 4 := ⟨by kernel_rfl⟩
instance : SFld Tryz.prog 150 5 5 := ⟨by kernel_rfl⟩
instance : SFld Tryz.prog 150 6 6 := ⟨by kernel_rfl⟩
instance : SFld Tryz.prog 150 7 7 := ⟨by kernel_rfl⟩
instance : SFld Tryz.prog 150 8 8 := ⟨by kernel_rfl⟩
instance : SFld Tryz.prog 150 9 9 := ⟨by kernel_rfl⟩
instance : SFld Tryz.prog 150 10 10 := ⟨by kernel_rfl⟩
instance : SInf Tryz.prog 150 (.agg #[.int .u64 0, .int .u64 0, .int .u32 0, .int .u8 0, .int .u8 0, .int .u8 0, .int .u8 0, .nilFunc, .pointer none, .int .i32 0, .int .i32 0]) 11 48 := ⟨by kernel_rfl⟩
instance : SCallee Tryz.prog 3 := ⟨_, Tryz.func3, by kernel_rfl, by kernel_rfl⟩
instance : SCallee Tryz.prog 4 := ⟨_, Tryz.func4, by kernel_rfl, by kernel_rfl⟩
instance : SCallee Tryz.prog 5 := ⟨_, Tryz.func5, by kernel_rfl, by kernel_rfl⟩
instance : SCallee Tryz.prog 6 := ⟨_, Tryz.func6, by kernel_rfl, by kernel_rfl⟩
instance : SCallee Tryz.prog 7 := ⟨_, Tryz.func7, by kernel_rfl, by kernel_rfl⟩
instance : SCallee Tryz.prog 8 := ⟨_, Tryz.func8, by kernel_rfl, by kernel_rfl⟩
instance : SCallee Tryz.prog 9 := ⟨_, Tryz.func9, by kernel_rfl, by kernel_rfl⟩
instance : SCallee Tryz.prog 10 := ⟨_, Tryz.func10, by kernel_rfl, by kernel_rfl⟩
instance : SCallee Tryz.prog 11 := ⟨_, Tryz.func11, by kernel_rfl, by kernel_rfl⟩
instance : SCallee Tryz.prog 12 := ⟨_, Tryz.func12, by kernel_rfl, by kernel_rfl⟩
instance : SCallee Tryz.prog 13 := ⟨_, Tryz.func13, by kernel_rfl, by kernel_rfl⟩
instance : SCallee Tryz.prog 14 := ⟨_, Tryz.func14, by kernel_rfl, by kernel_rfl⟩
instance : SCallee Tryz.prog 15 := ⟨_, Tryz.func15, by kernel_rfl, by kernel_rfl⟩
instance : SCallee Tryz.prog 16 := ⟨_, Tryz.func16, by kernel_rfl, by kernel_rfl⟩
instance : SCallee Tryz.prog 17 := ⟨_, Tryz.func17, by kernel_rfl, by kernel_rfl⟩
instance : SCallee Tryz.prog 18 := ⟨_, Tryz.func18, by kernel_rfl, by kernel_rfl⟩
instance : SCallee Tryz.prog 19 := ⟨_, Tryz.func19, by kernel_rfl, by kernel_rfl⟩
instance : SCallee Tryz.prog 20 := ⟨_, Tryz.func20, by kernel_rfl, by kernel_rfl⟩
instance : SCallee Tryz.prog 21 := ⟨_, Tryz.func21, by kernel_rfl, by kernel_rfl⟩
instance : SCallee Tryz.prog 22 := ⟨_, Tryz.func22, by kernel_rfl, by kernel_rfl⟩
instance : SCallee Tryz.prog 23 := ⟨_, Tryz.func23, by kernel_rfl, by kernel_rfl⟩
instance : SCallee Tryz.prog 24 := ⟨_, Tryz.func24, by kernel_rfl, by kernel_rfl⟩
instance : SCallee Tryz.prog 25 := ⟨_, Tryz.func25, by kernel_rfl, by kernel_rfl⟩
instance : SCallee Tryz.prog 26 := ⟨_, Tryz.func26, by kernel_rfl, by kernel_rfl⟩
instance : SCallee Tryz.prog 27 := ⟨_, Tryz.func27, by kernel_rfl, by kernel_rfl⟩
instance : SCallee Tryz.prog 28 := ⟨_, Tryz.func28, by kernel_rfl, by kernel_rfl⟩
instance : SCallee Tryz.prog 29 := ⟨_, Tryz.func29, by kernel_rfl, by kernel_rfl⟩
instance : SCallee Tryz.prog 30 := ⟨_, Tryz.func30, by kernel_rfl, by kernel_rfl⟩
instance : SCallee Tryz.prog 31 := ⟨_, Tryz.func31, by kernel_rfl, by kernel_rfl⟩
instance : SCallee Tryz.prog 32 := ⟨_, Tryz.func32, by kernel_rfl, by kernel_rfl⟩
instance : SCallee Tryz.prog 33 := ⟨_, Tryz.func33, by kernel_rfl, by kernel_rfl⟩
instance : SCallee Tryz.prog 34 := ⟨_, Tryz.func34, by kernel_rfl, by kernel_rfl⟩
instance : SCallee Tryz.prog 35 := ⟨_, Tryz.func35, by kernel_rfl, by kernel_rfl⟩
instance : SCallee Tryz.prog 36 := ⟨_, Tryz.func36, by kernel_rfl, by kernel_rfl⟩
instance : SCallee Tryz.prog 37 := ⟨_, Tryz.func37, by kernel_rfl, by kernel_rfl⟩
instance : SCallee Tryz.prog 38 := ⟨_, Tryz.func38, by kernel_rfl, by kernel_rfl⟩
instance : SCallee Tryz.prog 39 := ⟨_, Tryz.func39, by kernel_rfl, by kernel_rfl⟩
instance : SCallee Tryz.prog 40 := ⟨_, Tryz.func40, by kernel_rfl, by kernel_rfl⟩
instance : SCallee Tryz.prog 41 := ⟨_, Tryz.func41, by kernel_rfl, by kernel_rfl⟩
instance : SCallee Tryz.prog 42 := ⟨_, Tryz.func42, by kernel_rfl, by kernel_rfl⟩
instance : SCallee Tryz.prog 43 := ⟨_, Tryz.func43, by kernel_rfl, by kernel_rfl⟩
instance : SCallee Tryz.prog 44 := ⟨_, Tryz.func44, by kernel_rfl, by kernel_rfl⟩
instance : SCallee Tryz.prog 45 := ⟨_, Tryz.func45, by kernel_rfl, by kernel_rfl⟩
instance : SCallee Tryz.prog 46 := ⟨_, Tryz.func46, by kernel_rfl, by kernel_rfl⟩
instance : SCallee Tryz.prog 47 := ⟨_, Tryz.func47, by kernel_rfl, by kernel_rfl⟩
instance : SCallee Tryz.prog 48 := ⟨_, Tryz.func48, by kernel_rfl, by kernel_rfl⟩
instance : SCallee Tryz.prog 49 := ⟨_, Tryz.func49, by kernel_rfl, by kernel_rfl⟩
instance : SCallee Tryz.prog 50 := ⟨_, Tryz.func50, by kernel_rfl, by kernel_rfl⟩
instance : SCallee Tryz.prog 51 := ⟨_, Tryz.func51, by kernel_rfl, by kernel_rfl⟩
instance : SCallee Tryz.prog 52 := ⟨_, Tryz.func52, by kernel_rfl, by kernel_rfl⟩
instance : SCallee Tryz.prog 53 := ⟨_, Tryz.func53, by kernel_rfl, by kernel_rfl⟩
instance : SCallee Tryz.prog 54 := ⟨_, Tryz.func54, by kernel_rfl, by kernel_rfl⟩
instance : SCallee Tryz.prog 55 := ⟨_, Tryz.func55, by kernel_rfl, by kernel_rfl⟩
instance : SCallee Tryz.prog 56 := ⟨_, Tryz.func56, by kernel_rfl, by kernel_rfl⟩
instance : SCallee Tryz.prog 57 := ⟨_, Tryz.func57, by kernel_rfl, by kernel_rfl⟩
instance : SCallee Tryz.prog 58 := ⟨_, Tryz.func58, by kernel_rfl, by kernel_rfl⟩
instance : SCallee Tryz.prog 59 := ⟨_, Tryz.func59, by kernel_rfl, by kernel_rfl⟩
instance : SCallee Tryz.prog 60 := ⟨_, Tryz.func60, by kernel_rfl, by kernel_rfl⟩
instance : SCallee Tryz.prog 61 := ⟨_, Tryz.func61, by kernel_rfl, by kernel_rfl⟩
instance : SCallee Tryz.prog 62 := ⟨_, Tryz.func62, by kernel_rfl, by kernel_rfl⟩
instance : SCallee Tryz.prog 63 := ⟨_, Tryz.func63, by kernel_rfl, by kernel_rfl⟩
instance : SCallee Tryz.prog 64 := ⟨_, Tryz.func64, by kernel_rfl, by kernel_rfl⟩
instance : SCallee Tryz.prog 65 := ⟨_, Tryz.func65, by kernel_rfl, by kernel_rfl⟩
instance : SCallee Tryz.prog 67 := ⟨_, Tryz.func67, by kernel_rfl, by kernel_rfl⟩
instance : SCallee Tryz.prog 68 := ⟨_, Tryz.func68, by kernel_rfl, by kernel_rfl⟩
instance : SCallee Tryz.prog 69 := ⟨_, Tryz.func69, by kernel_rfl, by kernel_rfl⟩
instance : SCallee Tryz.prog 70 := ⟨_, Tryz.func70, by kernel_rfl, by kernel_rfl⟩
instance : SCallee Tryz.prog 71 := ⟨_, Tryz.func71, by kernel_rfl, by kernel_rfl⟩
instance : SCallee Tryz.prog 72 := ⟨_, Tryz.func72, by kernel_rfl, by kernel_rfl⟩
instance : SCallee Tryz.prog 73 := ⟨_, Tryz.func73, by kernel_rfl, by kernel_rfl⟩
instance : SCallee Tryz.prog 74 := ⟨_, Tryz.func74, by kernel_rfl, by kernel_rfl⟩
instance : SCallee Tryz.prog 75 := ⟨_, Tryz.func75, by kernel_rfl, by kernel_rfl⟩
instance : SCallee Tryz.prog 76 := ⟨_, Tryz.func76, by kernel_rfl, by kernel_rfl⟩
instance : SCallee Tryz.prog 77 := ⟨_, Tryz.func77, by kernel_rfl, by kernel_rfl⟩
instance : SCallee Tryz.prog 78 := ⟨_, Tryz.func78, by kernel_rfl, by kernel_rfl⟩
instance : SCallee Tryz.prog 79 := ⟨_, Tryz.func79, by kernel_rfl, by kernel_rfl⟩
instance : SCallee Tryz.prog 80 := ⟨_, Tryz.func80, by kernel_rfl, by kernel_rfl⟩
instance : SCallee Tryz.prog 81 := ⟨_, Tryz.func81, by kernel_rfl, by kernel_rfl⟩
instance : SCallee Tryz.prog 82 := ⟨_, Tryz.func82, by kernel_rfl, by kernel_rfl⟩
instance : SCallee Tryz.prog 83 := ⟨_, Tryz.func83, by kernel_rfl, by kernel_rfl⟩
instance : SCallee Tryz.prog 84 := ⟨_, Tryz.func84, by kernel_rfl, by kernel_rfl⟩
instance : SCallee Tryz.prog 85 := ⟨_, Tryz.func85, by kernel_rfl, by kernel_rfl⟩
instance : SCallee Tryz.prog 86 := ⟨_, Tryz.func86, by kernel_rfl, by kernel_rfl⟩
instance : SCallee Tryz.prog 87 := ⟨_, Tryz.func87, by kernel_rfl, by kernel_rfl⟩
instance : SCallee Tryz.prog 88 := ⟨_, Tryz.func88, by kernel_rfl, by kernel_rfl⟩
instance : SCallee Tryz.prog 89 := ⟨_, Tryz.func89, by kernel_rfl, by kernel_rfl⟩
instance : SCallee Tryz.prog 90 := ⟨_, Tryz.func90, by kernel_rfl, by kernel_rfl⟩
instance : SCallee Tryz.prog 91 := ⟨_, Tryz.func91, by kernel_rfl, by kernel_rfl⟩
instance : SCallee Tryz.prog 92 := ⟨_, Tryz.func92, by kernel_rfl, by kernel_rfl⟩
instance : SCallee Tryz.prog 93 := ⟨_, Tryz.func93, by kernel_rfl, by kernel_rfl⟩
instance : SCallee Tryz.prog 94 := ⟨_, Tryz.func94, by kernel_rfl, by kernel_rfl⟩
instance : SCallee Tryz.prog 95 := ⟨_, Tryz.func95, by kernel_rfl, by kernel_rfl⟩
instance : SCallee Tryz.prog 96 := ⟨_, Tryz.func96, by kernel_rfl, by kernel_rfl⟩
instance : SCallee Tryz.prog 97 := ⟨_, Tryz.func97, by kernel_rfl, by kernel_rfl⟩
instance : SCallee Tryz.prog 98 := ⟨_, Tryz.func98, by kernel_rfl, by kernel_rfl⟩
instance : SCallee Tryz.prog 99 := ⟨_, Tryz.func99, by kernel_rfl, by kernel_rfl⟩
instance : SCallee Tryz.prog 100 := ⟨_, Tryz.func100, by kernel_rfl, by kernel_rfl⟩
instance : SCallee Tryz.prog 101 := ⟨_, Tryz.func101, by kernel_rfl, by kernel_rfl⟩
instance : SCallee Tryz.prog 102 := ⟨_, Tryz.func102, by kernel_rfl, by kernel_rfl⟩
instance : SCallee Tryz.prog 103 := ⟨_, Tryz.func103, by kernel_rfl, by kernel_rfl⟩
instance : SCallee Tryz.prog 104 := ⟨_, Tryz.func104, by kernel_rfl, by kernel_rfl⟩
instance : SCallee Tryz.prog 105 := ⟨_, Tryz.func105, by kernel_rfl, by kernel_rfl⟩
instance : SCallee Tryz.prog 106 := ⟨_, Tryz.func106, by kernel_rfl, by kernel_rfl⟩
instance : SCallee Tryz.prog 107 := ⟨_, Tryz.func107, by kernel_rfl, by kernel_rfl⟩
instance : SCallee Tryz.prog 108 := ⟨_, Tryz.func108, by kernel_rfl, by kernel_rfl⟩
instance : SCallee Tryz.prog 109 := ⟨_, Tryz.func109, by kernel_rfl, by kernel_rfl⟩
instance : SCallee Tryz.prog 110 := ⟨_, Tryz.func110, by kernel_rfl, by kernel_rfl⟩
instance : SCallee Tryz.prog 111 := ⟨_, Tryz.func111, by kernel_rfl, by kernel_rfl⟩
instance : SCallee Tryz.prog 112 := ⟨_, Tryz.func112, by kernel_rfl, by kernel_rfl⟩
instance : SCallee Tryz.prog 113 := ⟨_, Tryz.func113, by kernel_rfl, by kernel_rfl⟩
instance : SCallee Tryz.prog 114 := ⟨_, Tryz.func114, by kernel_rfl, by kernel_rfl⟩
instance : SCallee Tryz.prog 115 := ⟨_, Tryz.func115, by kernel_rfl, by kernel_rfl⟩
instance : SCallee Tryz.prog 116 := ⟨_, Tryz.func116, by kernel_rfl, by kernel_rfl⟩
instance : SCallee Tryz.prog 117 := ⟨_, Tryz.func117, by kernel_rfl, by kernel_rfl⟩
instance : SCallee Tryz.prog 118 := ⟨_, Tryz.func118, by kernel_rfl, by kernel_rfl⟩
instance : SCallee Tryz.prog 119 := ⟨_, Tryz.func119, by kernel_rfl, by kernel_rfl⟩
instance : SCallee Tryz.prog 120 := ⟨_, Tryz.func120, by kernel_rfl, by kernel_rfl⟩
instance : SCallee Tryz.prog 121 := ⟨_, Tryz.func121, by kernel_rfl, by kernel_rfl⟩
end Go.Proofs.YtpcammhmgleonaaGreat
