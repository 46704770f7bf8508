/-
  The facts on the types and functions of this seat that the engine looks up by instance. Printed by a program.
-/
import Derived.Test.YtiainpcigdenaaaProg
import Derived.Test.YtiainpcigdenaaaSx
import Derived.KernelRfl
namespace Go.Proofs.Ytiainpcigdenaaa
open Go Sx
abbrev sxu2 := SUnd.mk Try.underlying2
attribute [instance] sxu2
instance : SInf Try.prog 2 (.int .i64 0) 1 8 := ⟨by kernel_rfl⟩
abbrev sxu3 := SUnd.mk Try.underlying3
attribute [instance] sxu3
instance : SInf Try.prog 3 (.int .i64 0) 1 8 := ⟨by kernel_rfl⟩
abbrev sxu4 := SUnd.mk Try.underlying4
attribute [instance] sxu4
instance : SInf Try.prog 4 (.bool false) 1 1 := ⟨by kernel_rfl⟩
abbrev sxu5 := SUnd.mk Try.underlying5
attribute [instance] sxu5
instance : SInf Try.prog 5 (.int .u8 0) 1 1 := ⟨by kernel_rfl⟩
abbrev sxu9 := SUnd.mk Try.underlying9
attribute [instance] sxu9
instance : SInf Try.prog 9 (.string ⟨#[]⟩) 1 16 := ⟨by kernel_rfl⟩
abbrev sxu12 := SUnd.mk Try.underlying12
attribute [instance] sxu12
instance : SInf Try.prog 12 (.int .u64 0) 1 8 := ⟨by kernel_rfl⟩
abbrev sxu17 := SUnd.mk Try.underlying17
attribute [instance] sxu17
instance : SInf Try.prog 17 (.pointer none) 1 8 := ⟨by kernel_rfl⟩
abbrev sxu21 := SUnd.mk Try.underlying21
attribute [instance] sxu21
instance : SInf Try.prog 21 (.int .i32 0) 1 4 := ⟨by kernel_rfl⟩
abbrev sxu22 := SUnd.mk Try.underlying22
attribute [instance] sxu22
instance : SInf Try.prog 22 (.slice none 0 0) 1 24 := ⟨by kernel_rfl⟩
abbrev sxu23 := SUnd.mk Try.underlying23
attribute [instance] sxu23
instance : SPl Try.prog 23 [(0, 1), (1, 1), (2, 1), (3, 1)] := ⟨_, Try.underlying23, by kernel_rfl⟩
instance : SFld Try.prog 23 0 0 := ⟨by kernel_rfl⟩
instance : SFld Try.prog 23 1 1 := ⟨by kernel_rfl⟩
instance : SFld Try.prog 23 2 2 := ⟨by kernel_rfl⟩
instance : SFld Try.prog 23 3 3 := ⟨by kernel_rfl⟩
instance : SInf Try.prog 23 (.agg #[.int .i64 0, .int .i64 0, .int .i64 0, .slice none 0 0]) 4 48 := ⟨by kernel_rfl⟩
abbrev sxu24 := SUnd.mk Try.underlying24
attribute [instance] sxu24
instance : SPl Try.prog 24 [(0, 1), (1, 1), (2, 1), (3, 1)] := ⟨_, Try.underlying24, by kernel_rfl⟩
instance : SFld Try.prog 24 0 0 := ⟨by kernel_rfl⟩
instance : SFld Try.prog 24 1 1 := ⟨by kernel_rfl⟩
instance : SFld Try.prog 24 2 2 := ⟨by kernel_rfl⟩
instance : SFld Try.prog 24 3 3 := ⟨by kernel_rfl⟩
instance : SInf Try.prog 24 (.agg #[.int .i64 0, .int .i64 0, .int .i64 0, .slice none 0 0]) 4 48 := ⟨by kernel_rfl⟩
abbrev sxu25 := SUnd.mk Try.underlying25
attribute [instance] sxu25
instance : SInf Try.prog 25 (.slice none 0 0) 1 24 := ⟨by kernel_rfl⟩
abbrev sxu26 := SUnd.mk Try.underlying26
attribute [instance] sxu26
instance : SPl Try.prog 26 [(0, 1), (1, 1), (2, 1)] := ⟨_, Try.underlying26, by kernel_rfl⟩
instance : SFld Try.prog 26 0 0 := ⟨by kernel_rfl⟩
instance : SFld Try.prog 26 1 1 := ⟨by kernel_rfl⟩
instance : SFld Try.prog 26 2 2 := ⟨by kernel_rfl⟩
instance : SInf Try.prog 26 (.agg #[.int .i64 0, .int .i64 0, .slice none 0 0]) 3 40 := ⟨by kernel_rfl⟩
abbrev sxu27 := SUnd.mk Try.underlying27
attribute [instance] sxu27
instance : SPl Try.prog 27 [(0, 1), (1, 1), (2, 1)] := ⟨_, Try.underlying27, by kernel_rfl⟩
instance : SFld Try.prog 27 0 0 := ⟨by kernel_rfl⟩
instance : SFld Try.prog 27 1 1 := ⟨by kernel_rfl⟩
instance : SFld Try.prog 27 2 2 := ⟨by kernel_rfl⟩
instance : SInf Try.prog 27 (.agg #[.int .i64 0, .int .i64 0, .slice none 0 0]) 3 40 := ⟨by kernel_rfl⟩
abbrev sxu28 := SUnd.mk Try.underlying28
attribute [instance] sxu28
instance : SPl Try.prog 28 [(0, 1), (1, 1), (2, 1), (3, 1), (4, 3)] := ⟨_, Try.underlying28, by kernel_rfl⟩
instance : SFld Try.prog 28 0 0 := ⟨by kernel_rfl⟩
instance : SFld Try.prog 28 1 1 := ⟨by kernel_rfl⟩
instance : SFld Try.prog 28 2 2 := ⟨by kernel_rfl⟩
instance : SFld Try.prog 28 3 3 := ⟨by kernel_rfl⟩
instance : SFld Try.prog 28 4 4 := ⟨by kernel_rfl⟩
instance : SInf Try.prog 28 (.agg #[.int .i64 0, .int .i64 0, .int .i64 0, .int .i64 0, .int .i64 0, .int .i64 0, .slice none 0 0]) 7 72 := ⟨by kernel_rfl⟩
abbrev sxu29 := SUnd.mk Try.underlying29
attribute [instance] sxu29
instance : SPl Try.prog 29 [(0, 1), (1, 1), (2, 1), (3, 1), (4, 3)] := ⟨_, Try.underlying29, by kernel_rfl⟩
instance : SFld Try.prog 29 0 0 := ⟨by kernel_rfl⟩
instance : SFld Try.prog 29 1 1 := ⟨by kernel_rfl⟩
instance : SFld Try.prog 29 2 2 := ⟨by kernel_rfl⟩
instance : SFld Try.prog 29 3 3 := ⟨by kernel_rfl⟩
instance : SFld Try.prog 29 4 4 := ⟨by kernel_rfl⟩
instance : SInf Try.prog 29 (.agg #[.int .i64 0, .int .i64 0, .int .i64 0, .int .i64 0, .int .i64 0, .int .i64 0, .slice none 0 0]) 7 72 := ⟨by kernel_rfl⟩
abbrev sxu32 := SUnd.mk Try.underlying32
attribute [instance] sxu32
instance : SInf Try.prog 32 (.slice none 0 0) 1 24 := ⟨by kernel_rfl⟩
abbrev sxu33 := SUnd.mk Try.underlying33
attribute [instance] sxu33
instance : SPl Try.prog 33 [(0, 1), (1, 1), (2, 1), (3, 1)] := ⟨_, Try.underlying33, by kernel_rfl⟩
instance : SFld Try.prog 33 0 0 := ⟨by kernel_rfl⟩
instance : SFld Try.prog 33 1 1 := ⟨by kernel_rfl⟩
instance : SFld Try.prog 33 2 2 := ⟨by kernel_rfl⟩
instance : SFld Try.prog 33 3 3 := ⟨by kernel_rfl⟩
instance : SInf Try.prog 33 (.agg #[.int .i64 0, .int .i64 0, .int .i64 0, .slice none 0 0]) 4 48 := ⟨by kernel_rfl⟩
abbrev sxu34 := SUnd.mk Try.underlying34
attribute [instance] sxu34
instance : SPl Try.prog 34 [(0, 1), (1, 1), (2, 1), (3, 1)] := ⟨_, Try.underlying34, by kernel_rfl⟩
instance : SFld Try.prog 34 0 0 := ⟨by kernel_rfl⟩
instance : SFld Try.prog 34 1 1 := ⟨by kernel_rfl⟩
instance : SFld Try.prog 34 2 2 := ⟨by kernel_rfl⟩
instance : SFld Try.prog 34 3 3 := ⟨by kernel_rfl⟩
instance : SInf Try.prog 34 (.agg #[.int .i64 0, .int .i64 0, .int .i64 0, .slice none 0 0]) 4 48 := ⟨by kernel_rfl⟩
abbrev sxu38 := SUnd.mk Try.underlying38
attribute [instance] sxu38
instance : SPl Try.prog 38 [(0, 1), (1, 1), (2, 1)] := ⟨_, Try.underlying38, by kernel_rfl⟩
instance : SFld Try.prog 38 0 0 := ⟨by kernel_rfl⟩
instance : SFld Try.prog 38 1 1 := ⟨by kernel_rfl⟩
instance : SFld Try.prog 38 2 2 := ⟨by kernel_rfl⟩
instance : SInf Try.prog 38 (.agg #[.int .i64 0, .int .i64 0, .slice none 0 0]) 3 40 := ⟨by kernel_rfl⟩
abbrev sxu39 := SUnd.mk Try.underlying39
attribute [instance] sxu39
instance : SPl Try.prog 39 [(0, 1), (1, 1), (2, 1), (3, 1), (4, 3)] := ⟨_, Try.underlying39, by kernel_rfl⟩
instance : SFld Try.prog 39 0 0 := ⟨by kernel_rfl⟩
instance : SFld Try.prog 39 1 1 := ⟨by kernel_rfl⟩
instance : SFld Try.prog 39 2 2 := ⟨by kernel_rfl⟩
instance : SFld Try.prog 39 3 3 := ⟨by kernel_rfl⟩
instance : SFld Try.prog 39 4 4 := ⟨by kernel_rfl⟩
instance : SInf Try.prog 39 (.agg #[.int .i64 0, .int .i64 0, .int .i64 0, .int .i64 0, .int .i64 0, .int .i64 0, .slice none 0 0]) 7 72 := ⟨by kernel_rfl⟩
abbrev sxu40 := SUnd.mk Try.underlying40
attribute [instance] sxu40
instance : SPl Try.prog 40 [(0, 1), (1, 1), (2, 1), (3, 1), (4, 3)] := ⟨_, Try.underlying40, by kernel_rfl⟩
instance : SFld Try.prog 40 0 0 := ⟨by kernel_rfl⟩
instance : SFld Try.prog 40 1 1 := ⟨by kernel_rfl⟩
instance : SFld Try.prog 40 2 2 := ⟨by kernel_rfl⟩
instance : SFld Try.prog 40 3 3 := ⟨by kernel_rfl⟩
instance : SFld Try.prog 40 4 4 := ⟨by kernel_rfl⟩
instance : SInf Try.prog 40 (.agg #[.int .i64 0, .int .i64 0, .int .i64 0, .int .i64 0, .int .i64 0, .int .i64 0, .slice none 0 0]) 7 72 := ⟨by kernel_rfl⟩
abbrev sxu47 := SUnd.mk Try.underlying47
attribute [instance] sxu47
instance : SInf Try.prog 47 (.slice none 0 0) 1 24 := ⟨by kernel_rfl⟩
abbrev sxu51 := SUnd.mk Try.underlying51
attribute [instance] sxu51
instance : SInf Try.prog 51 (.slice none 0 0) 1 24 := ⟨by kernel_rfl⟩
abbrev sxu56 := SUnd.mk Try.underlying56
attribute [instance] sxu56
instance : SInf Try.prog 56 (.slice none 0 0) 1 24 := ⟨by kernel_rfl⟩
abbrev sxu57 := SUnd.mk Try.underlying57
attribute [instance] sxu57
instance : SPl Try.prog 57 [(0, 1)] := ⟨_, Try.underlying57, by kernel_rfl⟩
instance : SFld Try.prog 57 0 0 := ⟨by kernel_rfl⟩
instance : SInf Try.prog 57 (.agg #[.slice none 0 0]) 1 24 := ⟨by kernel_rfl⟩
abbrev sxu58 := SUnd.mk Try.underlying58
attribute [instance] sxu58
instance : SPl Try.prog 58 [(0, 1)] := ⟨_, Try.underlying58, by kernel_rfl⟩
instance : SFld Try.prog 58 0 0 := ⟨by kernel_rfl⟩
instance : SInf Try.prog 58 (.agg #[.slice none 0 0]) 1 24 := ⟨by kernel_rfl⟩
abbrev sxu67 := SUnd.mk Try.underlying67
attribute [instance] sxu67
instance : SPl Try.prog 67 [(0, 1), (1, 1), (2, 1), (3, 1), (4, 1), (5, 1), (6, 1), (7, 1), (8, 3)] := ⟨_, Try.underlying67, by kernel_rfl⟩
instance : SFld Try.prog 67 0 0 := ⟨by kernel_rfl⟩
instance : SFld Try.prog 67 1 1 := ⟨by kernel_rfl⟩
instance : SFld Try.prog 67 2 2 := ⟨by kernel_rfl⟩
instance : SFld Try.prog 67 3 3 := ⟨by kernel_rfl⟩
instance : SFld Try.prog 67 4 4 := ⟨by kernel_rfl⟩
instance : SFld Try.prog 67 5 5 := ⟨by kernel_rfl⟩
instance : SFld Try.prog 67 6 6 := ⟨by kernel_rfl⟩
instance : SFld Try.prog 67 7 7 := ⟨by kernel_rfl⟩
instance : SFld Try.prog 67 8 8 := ⟨by kernel_rfl⟩
instance : SInf Try.prog 67 (.agg #[.int .i64 0, .int .i64 0, .int .i64 0, .int .i64 0, .int .i64 0, .int .i64 0, .int .i64 0, .bool false, .int .i64 0, .int .i64 0, .slice none 0 0]) 11 104 := ⟨by kernel_rfl⟩
abbrev sxu68 := SUnd.mk Try.underlying68
attribute [instance] sxu68
instance : SPl Try.prog 68 [(0, 1), (1, 1), (2, 1), (3, 1), (4, 1), (5, 1), (6, 1), (7, 1), (8, 3)] := ⟨_, Try.underlying68, by kernel_rfl⟩
instance : SFld Try.prog 68 0 0 := ⟨by kernel_rfl⟩
instance : SFld Try.prog 68 1 1 := ⟨by kernel_rfl⟩
instance : SFld Try.prog 68 2 2 := ⟨by kernel_rfl⟩
instance : SFld Try.prog 68 3 3 := ⟨by kernel_rfl⟩
instance : SFld Try.prog 68 4 4 := ⟨by kernel_rfl⟩
instance : SFld Try.prog 68 5 5 := ⟨by kernel_rfl⟩
instance : SFld Try.prog 68 6 6 := ⟨by kernel_rfl⟩
instance : SFld Try.prog 68 7 7 := ⟨by kernel_rfl⟩
instance : SFld Try.prog 68 8 8 := ⟨by kernel_rfl⟩
instance : SInf Try.prog 68 (.agg #[.int .i64 0, .int .i64 0, .int .i64 0, .int .i64 0, .int .i64 0, .int .i64 0, .int .i64 0, .bool false, .int .i64 0, .int .i64 0, .slice none 0 0]) 11 104 := ⟨by kernel_rfl⟩
abbrev sxu73 := SUnd.mk Try.underlying73
attribute [instance] sxu73
instance : SInf Try.prog 73 (.pointer none) 1 8 := ⟨by kernel_rfl⟩
abbrev sxu83 := SUnd.mk Try.underlying83
attribute [instance] sxu83
instance : SPl Try.prog 83 [(0, 1), (1, 1), (2, 1), (3, 1), (4, 1), (5, 1), (6, 1), (7, 1), (8, 3)] := ⟨_, Try.underlying83, by kernel_rfl⟩
instance : SFld Try.prog 83 0 0 := ⟨by kernel_rfl⟩
instance : SFld Try.prog 83 1 1 := ⟨by kernel_rfl⟩
instance : SFld Try.prog 83 2 2 := ⟨by kernel_rfl⟩
instance : SFld Try.prog 83 3 3 := ⟨by kernel_rfl⟩
instance : SFld Try.prog 83 4 4 := ⟨by kernel_rfl⟩
instance : SFld Try.prog 83 5 5 := ⟨by kernel_rfl⟩
instance : SFld Try.prog 83 6 6 := ⟨by kernel_rfl⟩
instance : SFld Try.prog 83 7 7 := ⟨by kernel_rfl⟩
instance : SFld Try.prog 83 8 8 := ⟨by kernel_rfl⟩
instance : SInf Try.prog 83 (.agg #[.int .i64 0, .int .i64 0, .int .i64 0, .int .i64 0, .int .i64 0, .int .i64 0, .int .i64 0, .bool false, .int .i64 0, .int .i64 0, .slice none 0 0]) 11 104 := ⟨by kernel_rfl⟩
abbrev sxu84 := SUnd.mk Try.underlying84
attribute [instance] sxu84
instance : SPl Try.prog 84 [(0, 1), (1, 1), (2, 1), (3, 1), (4, 1), (5, 1), (6, 1), (7, 1), (8, 3)] := ⟨_, Try.underlying84, by kernel_rfl⟩
instance : SFld Try.prog 84 0 0 := ⟨by kernel_rfl⟩
instance : SFld Try.prog 84 1 1 := ⟨by kernel_rfl⟩
instance : SFld Try.prog 84 2 2 := ⟨by kernel_rfl⟩
instance : SFld Try.prog 84 3 3 := ⟨by kernel_rfl⟩
instance : SFld Try.prog 84 4 4 := ⟨by kernel_rfl⟩
instance : SFld Try.prog 84 5 5 := ⟨by kernel_rfl⟩
instance : SFld Try.prog 84 6 6 := ⟨by kernel_rfl⟩
instance : SFld Try.prog 84 7 7 := ⟨by kernel_rfl⟩
instance : SFld Try.prog 84 8 8 := ⟨by kernel_rfl⟩
instance : SInf Try.prog 84 (.agg #[.int .i64 0, .int .i64 0, .int .i64 0, .int .i64 0, .int .i64 0, .int .i64 0, .int .i64 0, .bool false, .int .i64 0, .int .i64 0, .slice none 0 0]) 11 104 := ⟨by kernel_rfl⟩
abbrev sxu90 := SUnd.mk Try.underlying90
attribute [instance] sxu90
instance : SInf Try.prog 90 (.map none) 1 8 := ⟨by kernel_rfl⟩
abbrev sxu91 := SUnd.mk Try.underlying91
attribute [instance] sxu91
instance : SInf Try.prog 91 (.pointer none) 1 8 := ⟨by kernel_rfl⟩
abbrev sxu96 := SUnd.mk Try.underlying96
attribute [instance] sxu96
instance : SPl Try.prog 96 [(0, 1), (1, 1), (2, 1), (3, 1)] := ⟨_, Try.underlying96, by kernel_rfl⟩
instance : SFld Try.prog 96 0 0 := ⟨by kernel_rfl⟩
instance : SFld Try.prog 96 1 1 := ⟨by kernel_rfl⟩
instance : SFld Try.prog 96 2 2 := ⟨by kernel_rfl⟩
instance : SFld Try.prog 96 3 3 := ⟨by kernel_rfl⟩
instance : SInf Try.prog 96 (.agg #[.int .i64 0, .int .i64 0, .int .i64 0, .int .i64 0]) 4 32 := ⟨by kernel_rfl⟩
abbrev sxu97 := SUnd.mk Try.underlying97
attribute [instance] sxu97
instance : SPl Try.prog 97 [(0, 1), (1, 1), (2, 1), (3, 1)] := ⟨_, Try.underlying97, by kernel_rfl⟩
instance : SFld Try.prog 97 0 0 := ⟨by kernel_rfl⟩
instance : SFld Try.prog 97 1 1 := ⟨by kernel_rfl⟩
instance : SFld Try.prog 97 2 2 := ⟨by kernel_rfl⟩
instance : SFld Try.prog 97 3 3 := ⟨by kernel_rfl⟩
instance : SInf Try.prog 97 (.agg #[.int .i64 0, .int .i64 0, .int .i64 0, .int .i64 0]) 4 32 := ⟨by kernel_rfl⟩
abbrev sxu101 := SUnd.mk Try.underlying101
attribute [instance] sxu101
instance : SInf Try.prog 101 (.agg #[.int .i64 0, .int .i64 0, .int .i64 0, .int .i64 0, .int .i64 0, .int .i64 0, .int .i64 0, .int .i64 0, .int .i64 0, .int .i64 0, .int .i64 0, .int .i64 0, .int .i64 0, .int .i64 0, .int .i64 0, .int .i64 0]) 16 128 := ⟨by kernel_rfl⟩
abbrev sxu102 := SUnd.mk Try.underlying102
attribute [instance] sxu102
instance : SInf Try.prog 102 (.agg #[.int .i64 0, .int .i64 0, .int .i64 0, .int .i64 0, .int .i64 0, .int .i64 0, .int .i64 0, .int .i64 0, .int .i64 0, .int .i64 0, .int .i64 0, .int .i64 0, .int .i64 0, .int .i64 0, .int .i64 0, .int .i64 0]) 16 128 := ⟨by kernel_rfl⟩
abbrev sxu113 := SUnd.mk Try.underlying113
attribute [instance] sxu113
instance : SInf Try.prog 113 (.slice none 0 0) 1 24 := ⟨by kernel_rfl⟩
abbrev sxu128 := SUnd.mk Try.underlying128
attribute [instance] sxu128
instance : SInf Try.prog 128 (.int .u32 0) 1 4 := ⟨by kernel_rfl⟩
abbrev sxu132 := SUnd.mk Try.underlying132
attribute [instance] sxu132
instance : SInf Try.prog 132 (.pointer none) 1 8 := ⟨by kernel_rfl⟩
abbrev sxu135 := SUnd.mk Try.underlying135
attribute [instance] sxu135
instance : SPl Try.prog 135 [(0, 1), (1, 1), (2, 1), (3, 1), (4, 1), (5, 1), (6, 1), (7, 1), (8, 1), (9, 1), (10, 1)] := ⟨_, Try.underlying135, by kernel_rfl⟩
instance : SFld Try.prog 135 0 0 := ⟨by kernel_rfl⟩
instance : SFld Try.prog 135 1 1 := ⟨by kernel_rfl⟩
instance : SFld Try.prog 135 2 2 := ⟨by kernel_rfl⟩
instance : SFld Try.prog 135 3 3 := ⟨by kernel_rfl⟩
instance : SFld Try.prog 135 4 4 := ⟨by kernel_rfl⟩
instance : SFld Try.prog 135 5 5 := ⟨by kernel_rfl⟩
instance : SFld Try.prog 135 6 6 := ⟨by kernel_rfl⟩
instance : SFld Try.prog 135 7 7 := ⟨by kernel_rfl⟩
instance : SFld Try.prog 135 8 8 := ⟨by kernel_rfl⟩
instance : SFld Try.prog 135 9 9 := ⟨by kernel_rfl⟩
instance : SFld Try.prog 135 10 10 := ⟨by kernel_rfl⟩
instance : SInf Try.prog 135 (.agg #[.int .u64 0, .int .u64 0, .int .u32 0, .int .u8 0, .int .u8 0, .int .u8 0, .int .u8 0, .nilFunc, .pointer none, .int .i32 0, .int .i32 0]) 11 48 := ⟨by kernel_rfl⟩
instance : SCallee Try.prog 3 := ⟨_, Try.func3, by kernel_rfl, by kernel_rfl⟩
instance : SCallee Try.prog 4 := ⟨_, Try.func4, by kernel_rfl, by kernel_rfl⟩
instance : SCallee Try.prog 5 := ⟨_, Try.func5, by kernel_rfl, by kernel_rfl⟩
instance : SCallee Try.prog 6 := ⟨_, Try.func6, by kernel_rfl, by kernel_rfl⟩
instance : SCallee Try.prog 7 := ⟨_, Try.func7, by kernel_rfl, by kernel_rfl⟩
instance : SCallee Try.prog 8 := ⟨_, Try.func8, by kernel_rfl, by kernel_rfl⟩
instance : SCallee Try.prog 9 := ⟨_, Try.func9, by kernel_rfl, by kernel_rfl⟩
instance : SCallee Try.prog 10 := ⟨_, Try.func10, by kernel_rfl, by kernel_rfl⟩
instance : SCallee Try.prog 11 := ⟨_, Try.func11, by kernel_rfl, by kernel_rfl⟩
instance : SCallee Try.prog 12 := ⟨_, Try.func12, by kernel_rfl, by kernel_rfl⟩
instance : SCallee Try.prog 13 := ⟨_, Try.func13, by kernel_rfl, by kernel_rfl⟩
instance : SCallee Try.prog 14 := ⟨_, Try.func14, by kernel_rfl, by kernel_rfl⟩
instance : SCallee Try.prog 15 := ⟨_, Try.func15, by kernel_rfl, by kernel_rfl⟩
instance : SCallee Try.prog 16 := ⟨_, Try.func16, by kernel_rfl, by kernel_rfl⟩
instance : SCallee Try.prog 17 := ⟨_, Try.func17, by kernel_rfl, by kernel_rfl⟩
instance : SCallee Try.prog 18 := ⟨_, Try.func18, by kernel_rfl, by kernel_rfl⟩
instance : SCallee Try.prog 19 := ⟨_, Try.func19, by kernel_rfl, by kernel_rfl⟩
instance : SCallee Try.prog 20 := ⟨_, Try.func20, by kernel_rfl, by kernel_rfl⟩
instance : SCallee Try.prog 21 := ⟨_, Try.func21, by kernel_rfl, by kernel_rfl⟩
instance : SCallee Try.prog 22 := ⟨_, Try.func22, by kernel_rfl, by kernel_rfl⟩
instance : SCallee Try.prog 23 := ⟨_, Try.func23, by kernel_rfl, by kernel_rfl⟩
instance : SCallee Try.prog 24 := ⟨_, Try.func24, by kernel_rfl, by kernel_rfl⟩
instance : SCallee Try.prog 25 := ⟨_, Try.func25, by kernel_rfl, by kernel_rfl⟩
instance : SCallee Try.prog 26 := ⟨_, Try.func26, by kernel_rfl, by kernel_rfl⟩
instance : SCallee Try.prog 27 := ⟨_, Try.func27, by kernel_rfl, by kernel_rfl⟩
instance : SCallee Try.prog 28 := ⟨_, Try.func28, by kernel_rfl, by kernel_rfl⟩
instance : SCallee Try.prog 29 := ⟨_, Try.func29, by kernel_rfl, by kernel_rfl⟩
instance : SCallee Try.prog 30 := ⟨_, Try.func30, by kernel_rfl, by kernel_rfl⟩
instance : SCallee Try.prog 31 := ⟨_, Try.func31, by kernel_rfl, by kernel_rfl⟩
instance : SCallee Try.prog 32 := ⟨_, Try.func32, by kernel_rfl, by kernel_rfl⟩
instance : SCallee Try.prog 33 := ⟨_, Try.func33, by kernel_rfl, by kernel_rfl⟩
instance : SCallee Try.prog 34 := ⟨_, Try.func34, by kernel_rfl, by kernel_rfl⟩
instance : SCallee Try.prog 35 := ⟨_, Try.func35, by kernel_rfl, by kernel_rfl⟩
instance : SCallee Try.prog 36 := ⟨_, Try.func36, by kernel_rfl, by kernel_rfl⟩
instance : SCallee Try.prog 37 := ⟨_, Try.func37, by kernel_rfl, by kernel_rfl⟩
instance : SCallee Try.prog 38 := ⟨_, Try.func38, by kernel_rfl, by kernel_rfl⟩
instance : SCallee Try.prog 39 := ⟨_, Try.func39, by kernel_rfl, by kernel_rfl⟩
instance : SCallee Try.prog 40 := ⟨_, Try.func40, by kernel_rfl, by kernel_rfl⟩
instance : SCallee Try.prog 41 := ⟨_, Try.func41, by kernel_rfl, by kernel_rfl⟩
instance : SCallee Try.prog 42 := ⟨_, Try.func42, by kernel_rfl, by kernel_rfl⟩
instance : SCallee Try.prog 43 := ⟨_, Try.func43, by kernel_rfl, by kernel_rfl⟩
instance : SCallee Try.prog 44 := ⟨_, Try.func44, by kernel_rfl, by kernel_rfl⟩
instance : SCallee Try.prog 45 := ⟨_, Try.func45, by kernel_rfl, by kernel_rfl⟩
instance : SCallee Try.prog 46 := ⟨_, Try.func46, by kernel_rfl, by kernel_rfl⟩
instance : SCallee Try.prog 47 := ⟨_, Try.func47, by kernel_rfl, by kernel_rfl⟩
instance : SCallee Try.prog 48 := ⟨_, Try.func48, by kernel_rfl, by kernel_rfl⟩
instance : SCallee Try.prog 49 := ⟨_, Try.func49, by kernel_rfl, by kernel_rfl⟩
instance : SCallee Try.prog 50 := ⟨_, Try.func50, by kernel_rfl, by kernel_rfl⟩
instance : SCallee Try.prog 51 := ⟨_, Try.func51, by kernel_rfl, by kernel_rfl⟩
instance : SCallee Try.prog 52 := ⟨_, Try.func52, by kernel_rfl, by kernel_rfl⟩
instance : SCallee Try.prog 53 := ⟨_, Try.func53, by kernel_rfl, by kernel_rfl⟩
instance : SCallee Try.prog 54 := ⟨_, Try.func54, by kernel_rfl, by kernel_rfl⟩
instance : SCallee Try.prog 55 := ⟨_, Try.func55, by kernel_rfl, by kernel_rfl⟩
instance : SCallee Try.prog 56 := ⟨_, Try.func56, by kernel_rfl, by kernel_rfl⟩
instance : SCallee Try.prog 57 := ⟨_, Try.func57, by kernel_rfl, by kernel_rfl⟩
instance : SCallee Try.prog 58 := ⟨_, Try.func58, by kernel_rfl, by kernel_rfl⟩
instance : SCallee Try.prog 59 := ⟨_, Try.func59, by kernel_rfl, by kernel_rfl⟩
instance : SCallee Try.prog 60 := ⟨_, Try.func60, by kernel_rfl, by kernel_rfl⟩
instance : SCallee Try.prog 61 := ⟨_, Try.func61, by kernel_rfl, by kernel_rfl⟩
instance : SCallee Try.prog 62 := ⟨_, Try.func62, by kernel_rfl, by kernel_rfl⟩
instance : SCallee Try.prog 63 := ⟨_, Try.func63, by kernel_rfl, by kernel_rfl⟩
instance : SCallee Try.prog 64 := ⟨_, Try.func64, by kernel_rfl, by kernel_rfl⟩
instance : SCallee Try.prog 65 := ⟨_, Try.func65, by kernel_rfl, by kernel_rfl⟩
instance : SCallee Try.prog 66 := ⟨_, Try.func66, by kernel_rfl, by kernel_rfl⟩
instance : SCallee Try.prog 67 := ⟨_, Try.func67, by kernel_rfl, by kernel_rfl⟩
instance : SCallee Try.prog 68 := ⟨_, Try.func68, by kernel_rfl, by kernel_rfl⟩
instance : SCallee Try.prog 69 := ⟨_, Try.func69, by kernel_rfl, by kernel_rfl⟩
instance : SCallee Try.prog 70 := ⟨_, Try.func70, by kernel_rfl, by kernel_rfl⟩
instance : SCallee Try.prog 71 := ⟨_, Try.func71, by kernel_rfl, by kernel_rfl⟩
instance : SCallee Try.prog 72 := ⟨_, Try.func72, by kernel_rfl, by kernel_rfl⟩
instance : SCallee Try.prog 73 := ⟨_, Try.func73, by kernel_rfl, by kernel_rfl⟩
instance : SCallee Try.prog 74 := ⟨_, Try.func74, by kernel_rfl, by kernel_rfl⟩
instance : SCallee Try.prog 75 := ⟨_, Try.func75, by kernel_rfl, by kernel_rfl⟩
instance : SCallee Try.prog 76 := ⟨_, Try.func76, by kernel_rfl, by kernel_rfl⟩
instance : SCallee Try.prog 77 := ⟨_, Try.func77, by kernel_rfl, by kernel_rfl⟩
instance : SCallee Try.prog 78 := ⟨_, Try.func78, by kernel_rfl, by kernel_rfl⟩
instance : SCallee Try.prog 79 := ⟨_, Try.func79, by kernel_rfl, by kernel_rfl⟩
instance : SCallee Try.prog 80 := ⟨_, Try.func80, by kernel_rfl, by kernel_rfl⟩
instance : SCallee Try.prog 81 := ⟨_, Try.func81, by kernel_rfl, by kernel_rfl⟩
instance : SCallee Try.prog 82 := ⟨_, Try.func82, by kernel_rfl, by kernel_rfl⟩
instance : SCallee Try.prog 83 := ⟨_, Try.func83, by kernel_rfl, by kernel_rfl⟩
instance : SCallee Try.prog 84 := ⟨_, Try.func84, by kernel_rfl, by kernel_rfl⟩
instance : SCallee Try.prog 85 := ⟨_, Try.func85, by kernel_rfl, by kernel_rfl⟩
instance : SCallee Try.prog 86 := ⟨_, Try.func86, by kernel_rfl, by kernel_rfl⟩
instance : SCallee Try.prog 87 := ⟨_, Try.func87, by kernel_rfl, by kernel_rfl⟩
instance : SCallee Try.prog 88 := ⟨_, Try.func88, by kernel_rfl, by kernel_rfl⟩
instance : SCallee Try.prog 89 := ⟨_, Try.func89, by kernel_rfl, by kernel_rfl⟩
instance : SCallee Try.prog 90 := ⟨_, Try.func90, by kernel_rfl, by kernel_rfl⟩
instance : SCallee Try.prog 91 := ⟨_, Try.func91, by kernel_rfl, by kernel_rfl⟩
instance : SCallee Try.prog 92 := ⟨_, Try.func92, by kernel_rfl, by kernel_rfl⟩
instance : SCallee Try.prog 94 := ⟨_, Try.func94, by kernel_rfl, by kernel_rfl⟩
instance : SCallee Try.prog 95 := ⟨_, Try.func95, by kernel_rfl, by kernel_rfl⟩
instance : SCallee Try.prog 96 := ⟨_, Try.func96, by kernel_rfl, by kernel_rfl⟩
instance : SCallee Try.prog 97 := ⟨_, Try.func97, by kernel_rfl, by kernel_rfl⟩
instance : SCallee Try.prog 98 := ⟨_, Try.func98, by kernel_rfl, by kernel_rfl⟩
instance : SCallee Try.prog 99 := ⟨_, Try.func99, by kernel_rfl, by kernel_rfl⟩
instance : SCallee Try.prog 100 := ⟨_, Try.func100, by kernel_rfl, by kernel_rfl⟩
instance : SCallee Try.prog 101 := ⟨_, Try.func101, by kernel_rfl, by kernel_rfl⟩
instance : SCallee Try.prog 102 := ⟨_, Try.func102, by kernel_rfl, by kernel_rfl⟩
instance : SCallee Try.prog 103 := ⟨_, Try.func103, by kernel_rfl, by kernel_rfl⟩
instance : SCallee Try.prog 104 := ⟨_, Try.func104, by kernel_rfl, by kernel_rfl⟩
instance : SCallee Try.prog 105 := ⟨_, Try.func105, by kernel_rfl, by kernel_rfl⟩
instance : SCallee Try.prog 106 := ⟨_, Try.func106, by kernel_rfl, by kernel_rfl⟩
instance : SCallee Try.prog 107 := ⟨_, Try.func107, by kernel_rfl, by kernel_rfl⟩
instance : SCallee Try.prog 108 := ⟨_, Try.func108, by kernel_rfl, by kernel_rfl⟩
end Go.Proofs.Ytiainpcigdenaaa
