/-
  The facts on the types and functions of this seat that the engine looks up by instance. Printed by a program.
-/
import Derived.Test.YtakijgpoaeggnaaGreatProg
import Derived.Test.YtakijgpoaeggnaaGreatSx
import Derived.KernelRfl
namespace Go.Proofs.YtakijgpoaeggnaaGreat
open Go Sx
abbrev sxu2 := SUnd.mk Tryz.underlying2
attribute [instance] sxu2
instance : SInf Tryz.prog 2 (.int .i64 0) 1 8 := ⟨by kernel_rfl⟩
abbrev sxu3 := SUnd.mk Tryz.underlying3
attribute [instance] sxu3
instance : SInf Tryz.prog 3 (.int .i64 0) 1 8 := ⟨by kernel_rfl⟩
abbrev sxu4 := SUnd.mk Tryz.underlying4
attribute [instance] sxu4
instance : SInf Tryz.prog 4 (.bool false) 1 1 := ⟨by kernel_rfl⟩
abbrev sxu5 := SUnd.mk Tryz.underlying5
attribute [instance] sxu5
instance : SInf Tryz.prog 5 (.int .u8 0) 1 1 := ⟨by kernel_rfl⟩
abbrev sxu9 := SUnd.mk Tryz.underlying9
attribute [instance] sxu9
instance : SInf Tryz.prog 9 (.string ⟨#[]⟩) 1 16 := ⟨by kernel_rfl⟩
abbrev sxu12 := SUnd.mk Tryz.underlying12
attribute [instance] sxu12
instance : SInf Tryz.prog 12 (.int .u64 0) 1 8 := ⟨by kernel_rfl⟩
abbrev sxu17 := SUnd.mk Tryz.underlying17
attribute [instance] sxu17
instance : SInf Tryz.prog 17 (.pointer none) 1 8 := ⟨by kernel_rfl⟩
abbrev sxu21 := SUnd.mk Tryz.underlying21
attribute [instance] sxu21
instance : SInf Tryz.prog 21 (.int .i32 0) 1 4 := ⟨by kernel_rfl⟩
abbrev sxu22 := SUnd.mk Tryz.underlying22
attribute [instance] sxu22
instance : SInf Tryz.prog 22 (.slice none 0 0) 1 24 := ⟨by kernel_rfl⟩
abbrev sxu24 := SUnd.mk Tryz.underlying24
attribute [instance] sxu24
instance : SInf Tryz.prog 24 (.slice none 0 0) 1 24 := ⟨by kernel_rfl⟩
abbrev sxu25 := SUnd.mk Tryz.underlying25
attribute [instance] sxu25
instance : SPl Tryz.prog 25 [(0, 1), (1, 1), (2, 1), (3, 1)] := ⟨_, Tryz.underlying25, by kernel_rfl⟩
instance : SFld Tryz.prog 25 0 0 := ⟨by kernel_rfl⟩
instance : SFld Tryz.prog 25 1 1 := ⟨by kernel_rfl⟩
instance : SFld Tryz.prog 25 2 2 := ⟨by kernel_rfl⟩
instance : SFld Tryz.prog 25 3 3 := ⟨by kernel_rfl⟩
instance : SInf Tryz.prog 25 (.agg #[.int .i64 0, .int .i64 0, .int .i64 0, .slice none 0 0]) 4 48 := ⟨by kernel_rfl⟩
abbrev sxu26 := SUnd.mk Tryz.underlying26
attribute [instance] sxu26
instance : SPl Tryz.prog 26 [(0, 1), (1, 1), (2, 1), (3, 1)] := ⟨_, Tryz.underlying26, by kernel_rfl⟩
instance : SFld Tryz.prog 26 0 0 := ⟨by kernel_rfl⟩
instance : SFld Tryz.prog 26 1 1 := ⟨by kernel_rfl⟩
instance : SFld Tryz.prog 26 2 2 := ⟨by kernel_rfl⟩
instance : SFld Tryz.prog 26 3 3 := ⟨by kernel_rfl⟩
instance : SInf Tryz.prog 26 (.agg #[.int .i64 0, .int .i64 0, .int .i64 0, .slice none 0 0]) 4 48 := ⟨by kernel_rfl⟩
abbrev sxu27 := SUnd.mk Tryz.underlying27
attribute [instance] sxu27
instance : SInf Tryz.prog 27 (.slice none 0 0) 1 24 := ⟨by kernel_rfl⟩
abbrev sxu30 := SUnd.mk Tryz.underlying30
attribute [instance] sxu30
instance : SInf Tryz.prog 30 (.slice none 0 0) 1 24 := ⟨by kernel_rfl⟩
abbrev sxu31 := SUnd.mk Tryz.underlying31
attribute [instance] sxu31
instance : SInf Tryz.prog 31 (.slice none 0 0) 1 24 := ⟨by kernel_rfl⟩
abbrev sxu32 := SUnd.mk Tryz.underlying32
attribute [instance] sxu32
instance : SInf Tryz.prog 32 (.slice none 0 0) 1 24 := ⟨by kernel_rfl⟩
abbrev sxu33 := SUnd.mk Tryz.underlying33
attribute [instance] sxu33
instance : SPl Tryz.prog 33 [(0, 1), (1, 1), (2, 1), (3, 4)] := ⟨_, Tryz.underlying33, by kernel_rfl⟩
instance : SFld Tryz.prog 33 0 0 := ⟨by kernel_rfl⟩
instance : SFld Tryz.prog 33 1 1 := ⟨by kernel_rfl⟩
instance : SFld Tryz.prog 33 2 2 := ⟨by kernel_rfl⟩
instance : SFld Tryz.prog 33 3 3 := ⟨by kernel_rfl⟩
instance : SInf Tryz.prog 33 (.agg #[.slice none 0 0, .slice none 0 0, .slice none 0 0, .int .i64 0, .int .i64 0, .int .i64 0, .slice none 0 0]) 7 120 := ⟨by kernel_rfl⟩
abbrev sxu34 := SUnd.mk Tryz.underlying34
attribute [instance] sxu34
instance : SPl Tryz.prog 34 [(0, 1), (1, 1), (2, 1), (3, 4)] := ⟨_, Tryz.underlying34, by kernel_rfl⟩
instance : SFld Tryz.prog 34 0 0 := ⟨by kernel_rfl⟩
instance : SFld Tryz.prog 34 1 1 := ⟨by kernel_rfl⟩
instance : SFld Tryz.prog 34 2 2 := ⟨by kernel_rfl⟩
instance : SFld Tryz.prog 34 3 3 := ⟨by kernel_rfl⟩
instance : SInf Tryz.prog 34 (.agg #[.slice none 0 0, .slice none 0 0, .slice none 0 0, .int .i64 0, .int .i64 0, .int .i64 0, .slice none 0 0]) 7 120 := ⟨by kernel_rfl⟩
abbrev sxu39 := SUnd.mk Tryz.underlying39
attribute [instance] sxu39
instance : SInf Tryz.prog 39 (.slice none 0 0) 1 24 := ⟨by kernel_rfl⟩
abbrev sxu41 := SUnd.mk Tryz.underlying41
attribute [instance] sxu41
instance : SInf Tryz.prog 41 (.slice none 0 0) 1 24 := ⟨by kernel_rfl⟩
abbrev sxu42 := SUnd.mk Tryz.underlying42
attribute [instance] sxu42
instance : SPl Tryz.prog 42 [(0, 1)] := ⟨_, Tryz.underlying42, by kernel_rfl⟩
instance : SFld Tryz.prog 42 0 0 := ⟨by kernel_rfl⟩
instance : SInf Tryz.prog 42 (.agg #[.slice none 0 0]) 1 24 := ⟨by kernel_rfl⟩
abbrev sxu43 := SUnd.mk Tryz.underlying43
attribute [instance] sxu43
instance : SPl Tryz.prog 43 [(0, 1)] := ⟨_, Tryz.underlying43, by kernel_rfl⟩
instance : SFld Tryz.prog 43 0 0 := ⟨by kernel_rfl⟩
instance : SInf Tryz.prog 43 (.agg #[.slice none 0 0]) 1 24 := ⟨by kernel_rfl⟩
abbrev sxu48 := SUnd.mk Tryz.underlying48
attribute [instance] sxu48
instance : SPl Tryz.prog 48 [(0, 1), (1, 1), (2, 1)] := ⟨_, Tryz.underlying48, by kernel_rfl⟩
instance : SFld Tryz.prog 48 0 0 := ⟨by kernel_rfl⟩
instance : SFld Tryz.prog 48 1 1 := ⟨by kernel_rfl⟩
instance : SFld Tryz.prog 48 2 2 := ⟨by kernel_rfl⟩
instance : SInf Tryz.prog 48 (.agg #[.int .i64 0, .int .i64 0, .slice none 0 0]) 3 40 := ⟨by kernel_rfl⟩
abbrev sxu49 := SUnd.mk Tryz.underlying49
attribute [instance] sxu49
instance : SPl Tryz.prog 49 [(0, 1), (1, 1), (2, 1)] := ⟨_, Tryz.underlying49, by kernel_rfl⟩
instance : SFld Tryz.prog 49 0 0 := ⟨by kernel_rfl⟩
instance : SFld Tryz.prog 49 1 1 := ⟨by kernel_rfl⟩
instance : SFld Tryz.prog 49 2 2 := ⟨by kernel_rfl⟩
instance : SInf Tryz.prog 49 (.agg #[.int .i64 0, .int .i64 0, .slice none 0 0]) 3 40 := ⟨by kernel_rfl⟩
abbrev sxu54 := SUnd.mk Tryz.underlying54
attribute [instance] sxu54
instance : SInf Tryz.prog 54 (.slice none 0 0) 1 24 := ⟨by kernel_rfl⟩
abbrev sxu55 := SUnd.mk Tryz.underlying55
attribute [instance] sxu55
instance : SInf Tryz.prog 55 (.slice none 0 0) 1 24 := ⟨by kernel_rfl⟩
abbrev sxu56 := SUnd.mk Tryz.underlying56
attribute [instance] sxu56
instance : SInf Tryz.prog 56 (.slice none 0 0) 1 24 := ⟨by kernel_rfl⟩
abbrev sxu57 := SUnd.mk Tryz.underlying57
attribute [instance] sxu57
instance : SPl Tryz.prog 57 [(0, 1), (1, 1), (2, 1), (3, 1)] := ⟨_, Tryz.underlying57, by kernel_rfl⟩
instance : SFld Tryz.prog 57 0 0 := ⟨by kernel_rfl⟩
instance : SFld Tryz.prog 57 1 1 := ⟨by kernel_rfl⟩
instance : SFld Tryz.prog 57 2 2 := ⟨by kernel_rfl⟩
instance : SFld Tryz.prog 57 3 3 := ⟨by kernel_rfl⟩
instance : SInf Tryz.prog 57 (.agg #[.int .i64 0, .int .i64 0, .int .i64 0, .slice none 0 0]) 4 48 := ⟨by kernel_rfl⟩
abbrev sxu58 := SUnd.mk Tryz.underlying58
attribute [instance] sxu58
instance : SPl Tryz.prog 58 [(0, 1), (1, 1), (2, 1), (3, 1)] := ⟨_, Tryz.underlying58, by kernel_rfl⟩
instance : SFld Tryz.prog 58 0 0 := ⟨by kernel_rfl⟩
instance : SFld Tryz.prog 58 1 1 := ⟨by kernel_rfl⟩
instance : SFld Tryz.prog 58 2 2 := ⟨by kernel_rfl⟩
instance : SFld Tryz.prog 58 3 3 := ⟨by kernel_rfl⟩
instance : SInf Tryz.prog 58 (.agg #[.int .i64 0, .int .i64 0, .int .i64 0, .slice none 0 0]) 4 48 := ⟨by kernel_rfl⟩
abbrev sxu59 := SUnd.mk Tryz.underlying59
attribute [instance] sxu59
instance : SPl Tryz.prog 59 [(0, 1), (1, 1), (2, 1), (3, 4)] := ⟨_, Tryz.underlying59, by kernel_rfl⟩
instance : SFld Tryz.prog 59 0 0 := ⟨by kernel_rfl⟩
instance : SFld Tryz.prog 59 1 1 := ⟨by kernel_rfl⟩
instance : SFld Tryz.prog 59 2 2 := ⟨by kernel_rfl⟩
instance : SFld Tryz.prog 59 3 3 := ⟨by kernel_rfl⟩
instance : SInf Tryz.prog 59 (.agg #[.slice none 0 0, .slice none 0 0, .slice none 0 0, .int .i64 0, .int .i64 0, .int .i64 0, .slice none 0 0]) 7 120 := ⟨by kernel_rfl⟩
abbrev sxu60 := SUnd.mk Tryz.underlying60
attribute [instance] sxu60
instance : SPl Tryz.prog 60 [(0, 1), (1, 1), (2, 1), (3, 4)] := ⟨_, Tryz.underlying60, by kernel_rfl⟩
instance : SFld Tryz.prog 60 0 0 := ⟨by kernel_rfl⟩
instance : SFld Tryz.prog 60 1 1 := ⟨by kernel_rfl⟩
instance : SFld Tryz.prog 60 2 2 := ⟨by kernel_rfl⟩
instance : SFld Tryz.prog 60 3 3 := ⟨by kernel_rfl⟩
instance : SInf Tryz.prog 60 (.agg #[.slice none 0 0, .slice none 0 0, .slice none 0 0, .int .i64 0, .int .i64 0, .int .i64 0, .slice none 0 0]) 7 120 := ⟨by kernel_rfl⟩
abbrev sxu73 := SUnd.mk Tryz.underlying73
attribute [instance] sxu73
instance : SInf Tryz.prog 73 (.pointer none) 1 8 := ⟨by kernel_rfl⟩
abbrev sxu84 := SUnd.mk Tryz.underlying84
attribute [instance] sxu84
instance : SPl Tryz.prog 84 [(0, 1), (1, 1), (2, 1), (3, 1), (4, 3)] := ⟨_, Tryz.underlying84, by kernel_rfl⟩
instance : SFld Tryz.prog 84 0 0 := ⟨by kernel_rfl⟩
instance : SFld Tryz.prog 84 1 1 := ⟨by kernel_rfl⟩
instance : SFld Tryz.prog 84 2 2 := ⟨by kernel_rfl⟩
instance : SFld Tryz.prog 84 3 3 := ⟨by kernel_rfl⟩
instance : SFld Tryz.prog 84 4 4 := ⟨by kernel_rfl⟩
instance : SInf Tryz.prog 84 (.agg #[.int .i64 0, .int .i64 0, .int .i64 0, .int .i64 0, .int .i64 0, .int .i64 0, .slice none 0 0]) 7 72 := ⟨by kernel_rfl⟩
abbrev sxu85 := SUnd.mk Tryz.underlying85
attribute [instance] sxu85
instance : SPl Tryz.prog 85 [(0, 1), (1, 1), (2, 1), (3, 1), (4, 3)] := ⟨_, Tryz.underlying85, by kernel_rfl⟩
instance : SFld Tryz.prog 85 0 0 := ⟨by kernel_rfl⟩
instance : SFld Tryz.prog 85 1 1 := ⟨by kernel_rfl⟩
instance : SFld Tryz.prog 85 2 2 := ⟨by kernel_rfl⟩
instance : SFld Tryz.prog 85 3 3 := ⟨by kernel_rfl⟩
instance : SFld Tryz.prog 85 4 4 := ⟨by kernel_rfl⟩
instance : SInf Tryz.prog 85 (.agg #[.int .i64 0, .int .i64 0, .int .i64 0, .int .i64 0, .int .i64 0, .int .i64 0, .slice none 0 0]) 7 72 := ⟨by kernel_rfl⟩
abbrev sxu86 := SUnd.mk Tryz.underlying86
attribute [instance] sxu86
instance : SInf Tryz.prog 86 (.agg #[.int .i64 0, .int .i64 0, .int .i64 0, .int .i64 0, .int .i64 0, .int .i64 0, .int .i64 0, .int .i64 0, .int .i64 0, .int .i64 0, .int .i64 0, .int .i64 0, .int .i64 0, .int .i64 0, .int .i64 0, .int .i64 0]) 16 128 := ⟨by kernel_rfl⟩
abbrev sxu87 := SUnd.mk Tryz.underlying87
attribute [instance] sxu87
instance : SInf Tryz.prog 87 (.agg #[.int .i64 0, .int .i64 0, .int .i64 0, .int .i64 0, .int .i64 0, .int .i64 0, .int .i64 0, .int .i64 0, .int .i64 0, .int .i64 0, .int .i64 0, .int .i64 0, .int .i64 0, .int .i64 0, .int .i64 0, .int .i64 0]) 16 128 := ⟨by kernel_rfl⟩
abbrev sxu99 := SUnd.mk Tryz.underlying99
attribute [instance] sxu99
instance : SPl Tryz.prog 99 [(0, 1), (1, 1), (2, 1), (3, 1)] := ⟨_, Tryz.underlying99, by kernel_rfl⟩
instance : SFld Tryz.prog 99 0 0 := ⟨by kernel_rfl⟩
instance : SFld Tryz.prog 99 1 1 := ⟨by kernel_rfl⟩
instance : SFld Tryz.prog 99 2 2 := ⟨by kernel_rfl⟩
instance : SFld Tryz.prog 99 3 3 := ⟨by kernel_rfl⟩
instance : SInf Tryz.prog 99 (.agg #[.int .i64 0, .int .i64 0, .int .i64 0, .int .i64 0]) 4 32 := ⟨by kernel_rfl⟩
abbrev sxu100 := SUnd.mk Tryz.underlying100
attribute [instance] sxu100
instance : SPl Tryz.prog 100 [(0, 1), (1, 1), (2, 1), (3, 1)] := ⟨_, Tryz.underlying100, by kernel_rfl⟩
instance : SFld Tryz.prog 100 0 0 := ⟨by kernel_rfl⟩
instance : SFld Tryz.prog 100 1 1 := ⟨by kernel_rfl⟩
instance : SFld Tryz.prog 100 2 2 := ⟨by kernel_rfl⟩
instance : SFld Tryz.prog 100 3 3 := ⟨by kernel_rfl⟩
instance : SInf Tryz.prog 100 (.agg #[.int .i64 0, .int .i64 0, .int .i64 0, .int .i64 0]) 4 32 := ⟨by kernel_rfl⟩
abbrev sxu120 := SUnd.mk Tryz.underlying120
attribute [instance] sxu120
instance : SPl Tryz.prog 120 [(0, 1), (1, 1), (2, 1)] := ⟨_, Tryz.underlying120, by kernel_rfl⟩
instance : SFld Tryz.prog 120 0 0 := ⟨by kernel_rfl⟩
instance : SFld Tryz.prog 120 1 1 := ⟨by kernel_rfl⟩
instance : SFld Tryz.prog 120 2 2 := ⟨by kernel_rfl⟩
instance : SInf Tryz.prog 120 (.agg #[.slice none 0 0, .int .i64 0, .int .i64 0]) 3 40 := ⟨by kernel_rfl⟩
abbrev sxu121 := SUnd.mk Tryz.underlying121
attribute [instance] sxu121
instance : SPl Tryz.prog 121 [(0, 1), (1, 1), (2, 1)] := ⟨_, Tryz.underlying121, by kernel_rfl⟩
instance : SFld Tryz.prog 121 0 0 := ⟨by kernel_rfl⟩
instance : SFld Tryz.prog 121 1 1 := ⟨by kernel_rfl⟩
instance : SFld Tryz.prog 121 2 2 := ⟨by kernel_rfl⟩
instance : SInf Tryz.prog 121 (.agg #[.slice none 0 0, .int .i64 0, .int .i64 0]) 3 40 := ⟨by kernel_rfl⟩
abbrev sxu125 := SUnd.mk Tryz.underlying125
attribute [instance] sxu125
instance : SPl Tryz.prog 125 [(0, 1), (1, 1), (2, 1), (3, 1), (4, 1), (5, 1), (6, 1), (7, 1), (8, 3)] := ⟨_, Tryz.underlying125, by kernel_rfl⟩
instance : SFld Tryz.prog 125 0 0 := ⟨by kernel_rfl⟩
instance : SFld Tryz.prog 125 1 1 := ⟨by kernel_rfl⟩
instance : SFld Tryz.prog 125 2 2 := ⟨by kernel_rfl⟩
instance : SFld Tryz.prog 125 3 3 := ⟨by kernel_rfl⟩
instance : SFld Tryz.prog 125 4 4 := ⟨by kernel_rfl⟩
instance : SFld Tryz.prog 125 5 5 := ⟨by kernel_rfl⟩
instance : SFld Tryz.prog 125 6 6 := ⟨by kernel_rfl⟩
instance : SFld Tryz.prog 125 7 7 := ⟨by kernel_rfl⟩
instance : SFld Tryz.prog 125 8 8 := ⟨by kernel_rfl⟩
instance : SInf Tryz.prog 125 (.agg #[.int .i64 0, .int .i64 0, .int .i64 0, .int .i64 0, .int .i64 0, .int .i64 0, .int .i64 0, .bool false, .int .i64 0, .int .i64 0, .slice none 0 0]) 11 104 := ⟨by kernel_rfl⟩
abbrev sxu126 := SUnd.mk Tryz.underlying126
attribute [instance] sxu126
instance : SPl Tryz.prog 126 [(0, 1), (1, 1), (2, 1), (3, 1), (4, 1), (5, 1), (6, 1), (7, 1), (8, 3)] := ⟨_, Tryz.underlying126, by kernel_rfl⟩
instance : SFld Tryz.prog 126 0 0 := ⟨by kernel_rfl⟩
instance : SFld Tryz.prog 126 1 1 := ⟨by kernel_rfl⟩
instance : SFld Tryz.prog 126 2 2 := ⟨by kernel_rfl⟩
instance : SFld Tryz.prog 126 3 3 := ⟨by kernel_rfl⟩
instance : SFld Tryz.prog 126 4 4 := ⟨by kernel_rfl⟩
instance : SFld Tryz.prog 126 5 5 := ⟨by kernel_rfl⟩
instance : SFld Tryz.prog 126 6 6 := ⟨by kernel_rfl⟩
instance : SFld Tryz.prog 126 7 7 := ⟨by kernel_rfl⟩
instance : SFld Tryz.prog 126 8 8 := ⟨by kernel_rfl⟩
instance : SInf Tryz.prog 126 (.agg #[.int .i64 0, .int .i64 0, .int .i64 0, .int .i64 0, .int .i64 0, .int .i64 0, .int .i64 0, .bool false, .int .i64 0, .int .i64 0, .slice none 0 0]) 11 104 := ⟨by kernel_rfl⟩
abbrev sxu129 := SUnd.mk Tryz.underlying129
attribute [instance] sxu129
instance : SInf Tryz.prog 129 (.map none) 1 8 := ⟨by kernel_rfl⟩
abbrev sxu143 := SUnd.mk Tryz.underlying143
attribute [instance] sxu143
instance : SPl Tryz.prog 143 [(0, 1), (1, 1), (2, 1)] := ⟨_, Tryz.underlying143, by kernel_rfl⟩
instance : SFld Tryz.prog 143 0 0 := ⟨by kernel_rfl⟩
instance : SFld Tryz.prog 143 1 1 := ⟨by kernel_rfl⟩
instance : SFld Tryz.prog 143 2 2 := ⟨by kernel_rfl⟩
instance : SInf Tryz.prog 143 (.agg #[.int .i64 0, .int .i64 0, .slice none 0 0]) 3 40 := ⟨by kernel_rfl⟩
abbrev sxu145 := SUnd.mk Tryz.underlying145
attribute [instance] sxu145
instance : SInf Tryz.prog 145 (.slice none 0 0) 1 24 := ⟨by kernel_rfl⟩
abbrev sxu146 := SUnd.mk Tryz.underlying146
attribute [instance] sxu146
instance : SPl Tryz.prog 146 [(0, 1)] := ⟨_, Tryz.underlying146, by kernel_rfl⟩
instance : SFld Tryz.prog 146 0 0 := ⟨by kernel_rfl⟩
instance : SInf Tryz.prog 146 (.agg #[.slice none 0 0]) 1 24 := ⟨by kernel_rfl⟩
abbrev sxu147 := SUnd.mk Tryz.underlying147
attribute [instance] sxu147
instance : SPl Tryz.prog 147 [(0, 1)] := ⟨_, Tryz.underlying147, by kernel_rfl⟩
instance : SFld Tryz.prog 147 0 0 := ⟨by kernel_rfl⟩
instance : SInf Tryz.prog 147 (.agg #[.slice none 0 0]) 1 24 := ⟨by kernel_rfl⟩
abbrev sxu149 := SUnd.mk Tryz.underlying149
attribute [instance] sxu149
instance : SPl Tryz.prog 149 [(0, 1), (1, 1), (2, 1), (3, 1), (4, 1), (5, 1), (6, 1), (7, 1), (8, 3)] := ⟨_, Tryz.underlying149, by kernel_rfl⟩
instance : SFld Tryz.prog 149 0 0 := ⟨by kernel_rfl⟩
instance : SFld Tryz.prog 149 1 1 := ⟨by kernel_rfl⟩
instance : SFld Tryz.prog 149 2 2 := ⟨by kernel_rfl⟩
instance : SFld Tryz.prog 149 3 3 := ⟨by kernel_rfl⟩
instance : SFld Tryz.prog 149 4 4 := ⟨by kernel_rfl⟩
instance : SFld Tryz.prog 149 5 5 := ⟨by kernel_rfl⟩
instance : SFld Tryz.prog 149 6 6 := ⟨by kernel_rfl⟩
instance : SFld Tryz.prog 149 7 7 := ⟨by kernel_rfl⟩
instance : SFld Tryz.prog 149 8 8 := ⟨by kernel_rfl⟩
instance : SInf Tryz.prog 149 (.agg #[.int .i64 0, .int .i64 0, .int .i64 0, .int .i64 0, .int .i64 0, .int .i64 0, .int .i64 0, .bool false, .int .i64 0, .int .i64 0, .slice none 0 0]) 11 104 := ⟨by kernel_rfl⟩
abbrev sxu150 := SUnd.mk Tryz.underlying150
attribute [instance] sxu150
instance : SPl Tryz.prog 150 [(0, 1), (1, 1), (2, 1), (3, 1), (4, 1), (5, 1), (6, 1), (7, 1), (8, 3)] := ⟨_, Tryz.underlying150, by kernel_rfl⟩
instance : SFld Tryz.prog 150 0 0 := ⟨by kernel_rfl⟩
instance : SFld Tryz.prog 150 1 1 := ⟨by kernel_rfl⟩
instance : SFld Tryz.prog 150 2 2 := ⟨by kernel_rfl⟩
instance : SFld Tryz.prog 150 3 3 := ⟨by kernel_rfl⟩
instance : SFld Tryz.prog 150 4 4 := ⟨by kernel_rfl⟩
instance : SFld Tryz.prog 150 5 5 := ⟨by kernel_rfl⟩
instance : SFld Tryz.prog 150 6 6 := ⟨by kernel_rfl⟩
instance : SFld Tryz.prog 150 7 7 := ⟨by kernel_rfl⟩
instance : SFld Tryz.prog 150 8 8 := ⟨by kernel_rfl⟩
instance : SInf Tryz.prog 150 (.agg #[.int .i64 0, .int .i64 0, .int .i64 0, .int .i64 0, .int .i64 0, .int .i64 0, .int .i64 0, .bool false, .int .i64 0, .int .i64 0, .slice none 0 0]) 11 104 := ⟨by kernel_rfl⟩
abbrev sxu160 := SUnd.mk Tryz.underlying160
attribute [instance] sxu160
instance : SInf Tryz.prog 160 (.int .u64 0) 1 8 := ⟨by kernel_rfl⟩
abbrev sxu175 := SUnd.mk Tryz.underlying175
attribute [instance] sxu175
instance : SInf Tryz.prog 175 (.slice none 0 0) 1 24 := ⟨by kernel_rfl⟩
abbrev sxu178 := SUnd.mk Tryz.underlying178
attribute [instance] sxu178
instance : SInf Tryz.prog 178 (.int .u32 0) 1 4 := ⟨by kernel_rfl⟩
abbrev sxu181 := SUnd.mk Tryz.underlying181
attribute [instance] sxu181
instance : SInf Tryz.prog 181 (.int .u64 0) 1 8 := ⟨by kernel_rfl⟩
abbrev sxu189 := SUnd.mk Tryz.underlying189
attribute [instance] sxu189
instance : SPl Tryz.prog 189 [(0, 1), (1, 1), (2, 1), (3, 1)] := ⟨_, Tryz.underlying189, by kernel_rfl⟩
instance : SFld Tryz.prog 189 0 0 := ⟨by kernel_rfl⟩
instance : SFld Tryz.prog 189 1 1 := ⟨by kernel_rfl⟩
instance : SFld Tryz.prog 189 2 2 := ⟨by kernel_rfl⟩
instance : SFld Tryz.prog 189 3 3 := ⟨by kernel_rfl⟩
instance : SInf Tryz.prog 189 (.agg #[.int .i64 0, .int .i64 0, .int .i64 0, .int .i64 0]) 4 32 := ⟨by kernel_rfl⟩
abbrev sxu201 := SUnd.mk Tryz.underlying201
attribute [instance] sxu201
instance : SInf Tryz.prog 201 (.pointer none) 1 8 := ⟨by kernel_rfl⟩
abbrev sxu204 := SUnd.mk Tryz.underlying204
attribute [instance] sxu204
instance : SPl Tryz.prog 204 [(0, 1), (1, 1), (2, 1), (3, 1), (4, 1), (5, 1), (6, 1), (7, 1), (8, 1), (9, 1), (10, 1)] := ⟨_, Tryz.underlying204, by kernel_rfl⟩
instance : SFld Tryz.prog 204 0 0 := ⟨by kernel_rfl⟩
instance : SFld Tryz.prog 204 1 1 := ⟨by kernel_rfl⟩
instance : SFld Tryz.prog 204 2 2 := ⟨by kernel_rfl⟩
instance : SFld Tryz.prog 204 3 3 := ⟨by kernel_rfl⟩
instance : SFld Tryz.prog 204 4 4 := ⟨by kernel_rfl⟩
instance : SFld Tryz.prog 204 5 5 := ⟨by kernel_rfl⟩
instance : SFld Tryz.prog 204 6 6 := ⟨by kernel_rfl⟩
instance : SFld Tryz.prog 204 7 7 := ⟨by kernel_rfl⟩
instance : SFld Tryz.prog 204 8 8 := ⟨by kernel_rfl⟩
instance : SFld Tryz.prog 204 9 9 := ⟨by kernel_rfl⟩
instance : SFld Tryz.prog 204 10 10 := ⟨by kernel_rfl⟩
instance : SInf Tryz.prog 204 (.agg #[.int .u64 0, .int .u64 0, .int .u32 0, .int .u8 0, .int .u8 0, .int .u8 0, .int .u8 0, .nilFunc, .pointer none, .int .i32 0, .int .i32 0]) 11 48 := ⟨by kernel_rfl⟩
instance : SCallee Tryz.prog 3 := ⟨_, Tryz.func3, by kernel_rfl, by kernel_rfl⟩
instance : SCallee Tryz.prog 4 := ⟨_, Tryz.func4, by kernel_rfl, by kernel_rfl⟩
instance : SCallee Tryz.prog 5 := ⟨_, Tryz.func5, by kernel_rfl, by kernel_rfl⟩
instance : SCallee Tryz.prog 6 := ⟨_, Tryz.func6, by kernel_rfl, by kernel_rfl⟩
instance : SCallee Tryz.prog 7 := ⟨_, Tryz.func7, by kernel_rfl, by kernel_rfl⟩
instance : SCallee Tryz.prog 8 := ⟨_, Tryz.func8, by kernel_rfl, by kernel_rfl⟩
instance : SCallee Tryz.prog 9 := ⟨_, Tryz.func9, by kernel_rfl, by kernel_rfl⟩
instance : SCallee Tryz.prog 10 := ⟨_, Tryz.func10, by kernel_rfl, by kernel_rfl⟩
instance : SCallee Tryz.prog 11 := ⟨_, Tryz.func11, by kernel_rfl, by kernel_rfl⟩
instance : SCallee Tryz.prog 12 := ⟨_, Tryz.func12, by kernel_rfl, by kernel_rfl⟩
instance : SCallee Tryz.prog 13 := ⟨_, Tryz.func13, by kernel_rfl, by kernel_rfl⟩
instance : SCallee Tryz.prog 14 := ⟨_, Tryz.func14, by kernel_rfl, by kernel_rfl⟩
instance : SCallee Tryz.prog 15 := ⟨_, Tryz.func15, by kernel_rfl, by kernel_rfl⟩
instance : SCallee Tryz.prog 16 := ⟨_, Tryz.func16, by kernel_rfl, by kernel_rfl⟩
instance : SCallee Tryz.prog 17 := ⟨_, Tryz.func17, by kernel_rfl, by kernel_rfl⟩
instance : SCallee Tryz.prog 18 := ⟨_, Tryz.func18, by kernel_rfl, by kernel_rfl⟩
instance : SCallee Tryz.prog 19 := ⟨_, Tryz.func19, by kernel_rfl, by kernel_rfl⟩
instance : SCallee Tryz.prog 20 := ⟨_, Tryz.func20, by kernel_rfl, by kernel_rfl⟩
instance : SCallee Tryz.prog 21 := ⟨_, Tryz.func21, by kernel_rfl, by kernel_rfl⟩
instance : SCallee Tryz.prog 22 := ⟨_, Tryz.func22, by kernel_rfl, by kernel_rfl⟩
instance : SCallee Tryz.prog 23 := ⟨_, Tryz.func23, by kernel_rfl, by kernel_rfl⟩
instance : SCallee Tryz.prog 24 := ⟨_, Tryz.func24, by kernel_rfl, by kernel_rfl⟩
instance : SCallee Tryz.prog 25 := ⟨_, Tryz.func25, by kernel_rfl, by kernel_rfl⟩
instance : SCallee Tryz.prog 26 := ⟨_, Tryz.func26, by kernel_rfl, by kernel_rfl⟩
instance : SCallee Tryz.prog 27 := ⟨_, Tryz.func27, by kernel_rfl, by kernel_rfl⟩
instance : SCallee Tryz.prog 28 := ⟨_, Tryz.func28, by kernel_rfl, by kernel_rfl⟩
instance : SCallee Tryz.prog 29 := ⟨_, Tryz.func29, by kernel_rfl, by kernel_rfl⟩
instance : SCallee Tryz.prog 30 := ⟨_, Tryz.func30, by kernel_rfl, by kernel_rfl⟩
instance : SCallee Tryz.prog 31 := ⟨_, Tryz.func31, by kernel_rfl, by kernel_rfl⟩
instance : SCallee Tryz.prog 32 := ⟨_, Tryz.func32, by kernel_rfl, by kernel_rfl⟩
instance : SCallee Tryz.prog 33 := ⟨_, Tryz.func33, by kernel_rfl, by kernel_rfl⟩
instance : SCallee Tryz.prog 34 := ⟨_, Tryz.func34, by kernel_rfl, by kernel_rfl⟩
instance : SCallee Tryz.prog 35 := ⟨_, Tryz.func35, by kernel_rfl, by kernel_rfl⟩
instance : SCallee Tryz.prog 36 := ⟨_, Tryz.func36, by kernel_rfl, by kernel_rfl⟩
instance : SCallee Tryz.prog 37 := ⟨_, Tryz.func37, by kernel_rfl, by kernel_rfl⟩
instance : SCallee Tryz.prog 38 := ⟨_, Tryz.func38, by kernel_rfl, by kernel_rfl⟩
instance : SCallee Tryz.prog 39 := ⟨_, Tryz.func39, by kernel_rfl, by kernel_rfl⟩
instance : SCallee Tryz.prog 40 := ⟨_, Tryz.func40, by kernel_rfl, by kernel_rfl⟩
instance : SCallee Tryz.prog 41 := ⟨_, Tryz.func41, by kernel_rfl, by kernel_rfl⟩
instance : SCallee Tryz.prog 42 := ⟨_, Tryz.func42, by kernel_rfl, by kernel_rfl⟩
instance : SCallee Tryz.prog 43 := ⟨_, Tryz.func43, by kernel_rfl, by kernel_rfl⟩
instance : SCallee Tryz.prog 44 := ⟨_, Tryz.func44, by kernel_rfl, by kernel_rfl⟩
instance : SCallee Tryz.prog 45 := ⟨_, Tryz.func45, by kernel_rfl, by kernel_rfl⟩
instance : SCallee Tryz.prog 46 := ⟨_, Tryz.func46, by kernel_rfl, by kernel_rfl⟩
instance : SCallee Tryz.prog 47 := ⟨_, Tryz.func47, by kernel_rfl, by kernel_rfl⟩
instance : SCallee Tryz.prog 48 := ⟨_, Tryz.func48, by kernel_rfl, by kernel_rfl⟩
instance : SCallee Tryz.prog 49 := ⟨_, Tryz.func49, by kernel_rfl, by kernel_rfl⟩
instance : SCallee Tryz.prog 50 := ⟨_, Tryz.func50, by kernel_rfl, by kernel_rfl⟩
instance : SCallee Tryz.prog 51 := ⟨_, Tryz.func51, by kernel_rfl, by kernel_rfl⟩
instance : SCallee Tryz.prog 52 := ⟨_, Tryz.func52, by kernel_rfl, by kernel_rfl⟩
instance : SCallee Tryz.prog 53 := ⟨_, Tryz.func53, by kernel_rfl, by kernel_rfl⟩
instance : SCallee Tryz.prog 54 := ⟨_, Tryz.func54, by kernel_rfl, by kernel_rfl⟩
instance : SCallee Tryz.prog 55 := ⟨_, Tryz.func55, by kernel_rfl, by kernel_rfl⟩
instance : SCallee Tryz.prog 56 := ⟨_, Tryz.func56, by kernel_rfl, by kernel_rfl⟩
instance : SCallee Tryz.prog 57 := ⟨_, Tryz.func57, by kernel_rfl, by kernel_rfl⟩
instance : SCallee Tryz.prog 58 := ⟨_, Tryz.func58, by kernel_rfl, by kernel_rfl⟩
instance : SCallee Tryz.prog 59 := ⟨_, Tryz.func59, by kernel_rfl, by kernel_rfl⟩
instance : SCallee Tryz.prog 60 := ⟨_, Tryz.func60, by kernel_rfl, by kernel_rfl⟩
instance : SCallee Tryz.prog 61 := ⟨_, Tryz.func61, by kernel_rfl, by kernel_rfl⟩
instance : SCallee Tryz.prog 62 := ⟨_, Tryz.func62, by kernel_rfl, by kernel_rfl⟩
instance : SCallee Tryz.prog 63 := ⟨_, Tryz.func63, by kernel_rfl, by kernel_rfl⟩
instance : SCallee Tryz.prog 64 := ⟨_, Tryz.func64, by kernel_rfl, by kernel_rfl⟩
instance : SCallee Tryz.prog 65 := ⟨_, Tryz.func65, by kernel_rfl, by kernel_rfl⟩
instance : SCallee Tryz.prog 66 := ⟨_, Tryz.func66, by kernel_rfl, by kernel_rfl⟩
instance : SCallee Tryz.prog 67 := ⟨_, Tryz.func67, by kernel_rfl, by kernel_rfl⟩
instance : SCallee Tryz.prog 68 := ⟨_, Tryz.func68, by kernel_rfl, by kernel_rfl⟩
instance : SCallee Tryz.prog 69 := ⟨_, Tryz.func69, by kernel_rfl, by kernel_rfl⟩
instance : SCallee Tryz.prog 70 := ⟨_, Tryz.func70, by kernel_rfl, by kernel_rfl⟩
instance : SCallee Tryz.prog 71 := ⟨_, Tryz.func71, by kernel_rfl, by kernel_rfl⟩
instance : SCallee Tryz.prog 72 := ⟨_, Tryz.func72, by kernel_rfl, by kernel_rfl⟩
instance : SCallee Tryz.prog 73 := ⟨_, Tryz.func73, by kernel_rfl, by kernel_rfl⟩
instance : SCallee Tryz.prog 74 := ⟨_, Tryz.func74, by kernel_rfl, by kernel_rfl⟩
instance : SCallee Tryz.prog 75 := ⟨_, Tryz.func75, by kernel_rfl, by kernel_rfl⟩
instance : SCallee Tryz.prog 76 := ⟨_, Tryz.func76, by kernel_rfl, by kernel_rfl⟩
instance : SCallee Tryz.prog 77 := ⟨_, Tryz.func77, by kernel_rfl, by kernel_rfl⟩
instance : SCallee Tryz.prog 78 := ⟨_, Tryz.func78, by kernel_rfl, by kernel_rfl⟩
instance : SCallee Tryz.prog 79 := ⟨_, Tryz.func79, by kernel_rfl, by kernel_rfl⟩
instance : SCallee Tryz.prog 80 := ⟨_, Tryz.func80, by kernel_rfl, by kernel_rfl⟩
instance : SCallee Tryz.prog 81 := ⟨_, Tryz.func81, by kernel_rfl, by kernel_rfl⟩
instance : SCallee Tryz.prog 82 := ⟨_, Tryz.func82, by kernel_rfl, by kernel_rfl⟩
instance : SCallee Tryz.prog 83 := ⟨_, Tryz.func83, by kernel_rfl, by kernel_rfl⟩
instance : SCallee Tryz.prog 84 := ⟨_, Tryz.func84, by kernel_rfl, by kernel_rfl⟩
instance : SCallee Tryz.prog 85 := ⟨_, Tryz.func85, by kernel_rfl, by kernel_rfl⟩
instance : SCallee Tryz.prog 86 := ⟨_, Tryz.func86, by kernel_rfl, by kernel_rfl⟩
instance : SCallee Tryz.prog 87 := ⟨_, Tryz.func87, by kernel_rfl, by kernel_rfl⟩
instance : SCallee Tryz.prog 88 := ⟨_, Tryz.func88, by kernel_rfl, by kernel_rfl⟩
instance : SCallee Tryz.prog 89 := ⟨_, Tryz.func89, by kernel_rfl, by kernel_rfl⟩
instance : SCallee Tryz.prog 90 := ⟨_, Tryz.func90, by kernel_rfl, by kernel_rfl⟩
instance : SCallee Tryz.prog 91 := ⟨_, Tryz.func91, by kernel_rfl, by kernel_rfl⟩
instance : SCallee Tryz.prog 92 := ⟨_, Tryz.func92, by kernel_rfl, by kernel_rfl⟩
instance : SCallee Tryz.prog 93 := ⟨_, Tryz.func93, by kernel_rfl, by kernel_rfl⟩
instance : SCallee Tryz.prog 94 := ⟨_, Tryz.func94, by kernel_rfl, by kernel_rfl⟩
instance : SCallee Tryz.prog 95 := ⟨_, Tryz.func95, by kernel_rfl, by kernel_rfl⟩
instance : SCallee Tryz.prog 96 := ⟨_, Tryz.func96, by kernel_rfl, by kernel_rfl⟩
instance : SCallee Tryz.prog 97 := ⟨_, Tryz.func97, by kernel_rfl, by kernel_rfl⟩
instance : SCallee Tryz.prog 98 := ⟨_, Tryz.func98, by kernel_rfl, by kernel_rfl⟩
instance : SCallee Tryz.prog 99 := ⟨_, Tryz.func99, by kernel_rfl, by kernel_rfl⟩
instance : SCallee Tryz.prog 100 := ⟨_, Tryz.func100, by kernel_rfl, by kernel_rfl⟩
instance : SCallee Tryz.prog 101 := ⟨_, Tryz.func101, by kernel_rfl, by kernel_rfl⟩
instance : SCallee Tryz.prog 102 := ⟨_, Tryz.func102, by kernel_rfl, by kernel_rfl⟩
instance : SCallee Tryz.prog 103 := ⟨_, Tryz.func103, by kernel_rfl, by kernel_rfl⟩
instance : SCallee Tryz.prog 104 := ⟨_, Tryz.func104, by kernel_rfl, by kernel_rfl⟩
instance : SCallee Tryz.prog 105 := ⟨_, Tryz.func105, by kernel_rfl, by kernel_rfl⟩
instance : SCallee Tryz.prog 106 := ⟨_, Tryz.func106, by kernel_rfl, by kernel_rfl⟩
instance : SCallee Tryz.prog 107 := ⟨_, Tryz.func107, by kernel_rfl, by kernel_rfl⟩
instance : SCallee Tryz.prog 108 := ⟨_, Tryz.func108, by kernel_rfl, by kernel_rfl⟩
instance : SCallee Tryz.prog 109 := ⟨_, Tryz.func109, by kernel_rfl, by kernel_rfl⟩
instance : SCallee Tryz.prog 110 := ⟨_, Tryz.func110, by kernel_rfl, by kernel_rfl⟩
instance : SCallee Tryz.prog 111 := ⟨_, Tryz.func111, by kernel_rfl, by kernel_rfl⟩
instance : SCallee Tryz.prog 112 := ⟨_, Tryz.func112, by kernel_rfl, by kernel_rfl⟩
instance : SCallee Tryz.prog 114 := ⟨_, Tryz.func114, by kernel_rfl, by kernel_rfl⟩
instance : SCallee Tryz.prog 115 := ⟨_, Tryz.func115, by kernel_rfl, by kernel_rfl⟩
instance : SCallee Tryz.prog 116 := ⟨_, Tryz.func116, by kernel_rfl, by kernel_rfl⟩
instance : SCallee Tryz.prog 117 := ⟨_, Tryz.func117, by kernel_rfl, by kernel_rfl⟩
instance : SCallee Tryz.prog 118 := ⟨_, Tryz.func118, by kernel_rfl, by kernel_rfl⟩
instance : SCallee Tryz.prog 119 := ⟨_, Tryz.func119, by kernel_rfl, by kernel_rfl⟩
instance : SCallee Tryz.prog 120 := ⟨_, Tryz.func120, by kernel_rfl, by kernel_rfl⟩
instance : SCallee Tryz.prog 121 := ⟨_, Tryz.func121, by kernel_rfl, by kernel_rfl⟩
instance : SCallee Tryz.prog 122 := ⟨_, Tryz.func122, by kernel_rfl, by kernel_rfl⟩
instance : SCallee Tryz.prog 123 := ⟨_, Tryz.func123, by kernel_rfl, by kernel_rfl⟩
instance : SCallee Tryz.prog 124 := ⟨_, Tryz.func124, by kernel_rfl, by kernel_rfl⟩
instance : SCallee Tryz.prog 125 := ⟨_, Tryz.func125, by kernel_rfl, by kernel_rfl⟩
instance : SCallee Tryz.prog 126 := ⟨_, Tryz.func126, by kernel_rfl, by kernel_rfl⟩
instance : SCallee Tryz.prog 127 := ⟨_, Tryz.func127, by kernel_rfl, by kernel_rfl⟩
instance : SCallee Tryz.prog 128 := ⟨_, Tryz.func128, by kernel_rfl, by kernel_rfl⟩
instance : SCallee Tryz.prog 129 := ⟨_, Tryz.func129, by kernel_rfl, by kernel_rfl⟩
instance : SCallee Tryz.prog 130 := ⟨_, Tryz.func130, by kernel_rfl, by kernel_rfl⟩
instance : SCallee Tryz.prog 131 := ⟨_, Tryz.func131, by kernel_rfl, by kernel_rfl⟩
instance : SCallee Tryz.prog 132 := ⟨_, Tryz.func132, by kernel_rfl, by kernel_rfl⟩
instance : SCallee Tryz.prog 133 := ⟨_, Tryz.func133, by kernel_rfl, by kernel_rfl⟩
instance : SCallee Tryz.prog 134 := ⟨_, Tryz.func134, by kernel_rfl, by kernel_rfl⟩
instance : SCallee Tryz.prog 135 := ⟨_, Tryz.func135, by kernel_rfl, by kernel_rfl⟩
instance : SCallee Tryz.prog 136 := ⟨_, Tryz.func136, by kernel_rfl, by kernel_rfl⟩
instance : SCallee Tryz.prog 137 := ⟨_, Tryz.func137, by kernel_rfl, by kernel_rfl⟩
instance : SCallee Tryz.prog 138 := ⟨_, Tryz.func138, by kernel_rfl, by kernel_rfl⟩
instance : SCallee Tryz.prog 139 := ⟨_, Tryz.func139, by kernel_rfl, by kernel_rfl⟩
instance : SCallee Tryz.prog 140 := ⟨_, Tryz.func140, by kernel_rfl, by kernel_rfl⟩
instance : SCallee Tryz.prog 141 := ⟨_, Tryz.func141, by kernel_rfl, by kernel_rfl⟩
instance : SCallee Tryz.prog 142 := ⟨_, Tryz.func142, by kernel_rfl, by kernel_rfl⟩
instance : SCallee Tryz.prog 143 := ⟨_, Tryz.func143, by kernel_rfl, by kernel_rfl⟩
instance : SCallee Tryz.prog 144 := ⟨_, Tryz.func144, by kernel_rfl, by kernel_rfl⟩
instance : SCallee Tryz.prog 145 := ⟨_, Tryz.func145, by kernel_rfl, by kernel_rfl⟩
instance : SCallee Tryz.prog 146 := ⟨_, Tryz.func146, by kernel_rfl, by kernel_rfl⟩
instance : SCallee Tryz.prog 147 := ⟨_, Tryz.func147, by kernel_rfl, by kernel_rfl⟩
instance : SCallee Tryz.prog 148 := ⟨_, Tryz.func148, by kernel_rfl, by kernel_rfl⟩
instance : SCallee Tryz.prog 149 := ⟨_, Tryz.func149, by kernel_rfl, by kernel_rfl⟩
instance : SCallee Tryz.prog 150 := ⟨_, Tryz.func150, by kernel_rfl, by kernel_rfl⟩
instance : SCallee Tryz.prog 151 := ⟨_, Tryz.func151, by kernel_rfl, by kernel_rfl⟩
instance : SCallee Tryz.prog 152 := ⟨_, Tryz.func152, by kernel_rfl, by kernel_rfl⟩
instance : SCallee Tryz.prog 153 := ⟨_, Tryz.func153, by kernel_rfl, by kernel_rfl⟩
instance : SCallee Tryz.prog 154 := ⟨_, Tryz.func154, by kernel_rfl, by kernel_rfl⟩
instance : SCallee Tryz.prog 155 := ⟨_, Tryz.func155, by kernel_rfl, by kernel_rfl⟩
instance : SCallee Tryz.prog 156 := ⟨_, Tryz.func156, by kernel_rfl, by kernel_rfl⟩
instance : SCallee Tryz.prog 157 := ⟨_, Tryz.func157, by kernel_rfl, by kernel_rfl⟩
instance : SCallee Tryz.prog 158 := ⟨_, Tryz.func158, by kernel_rfl, by kernel_rfl⟩
instance : SCallee Tryz.prog 159 := ⟨_, Tryz.func159, by kernel_rfl, by kernel_rfl⟩
instance : SCallee Tryz.prog 160 := ⟨_, Tryz.func160, by kernel_rfl, by kernel_rfl⟩
instance : SCallee Tryz.prog 161 := ⟨_, Tryz.func161, by kernel_rfl, by kernel_rfl⟩
instance : SCallee Tryz.prog 162 := ⟨_, Tryz.func162, by kernel_rfl, by kernel_rfl⟩
instance : SCallee Tryz.prog 163 := ⟨_, Tryz.func163, by kernel_rfl, by kernel_rfl⟩
instance : SCallee Tryz.prog 164 := ⟨_, Tryz.func164, by kernel_rfl, by kernel_rfl⟩
instance : SCallee Tryz.prog 165 := ⟨_, Tryz.func165, by kernel_rfl, by kernel_rfl⟩
instance : SCallee Tryz.prog 166 := ⟨_, Tryz.func166, by kernel_rfl, by kernel_rfl⟩
instance : SCallee Tryz.prog 167 := ⟨_, Tryz.func167, by kernel_rfl, by kernel_rfl⟩
instance : SCallee Tryz.prog 168 := ⟨_, Tryz.func168, by kernel_rfl, by kernel_rfl⟩
instance : SCallee Tryz.prog 169 := ⟨_, Tryz.func169, by kernel_rfl, by kernel_rfl⟩
instance : SCallee Tryz.prog 170 := ⟨_, Tryz.func170, by kernel_rfl, by kernel_rfl⟩
instance : SCallee Tryz.prog 171 := ⟨_, Tryz.func171, by kernel_rfl, by kernel_rfl⟩
instance : SCallee Tryz.prog 172 := ⟨_, Tryz.func172, by kernel_rfl, by kernel_rfl⟩
instance : SCallee Tryz.prog 173 := ⟨_, Tryz.func173, by kernel_rfl, by kernel_rfl⟩
instance : SCallee Tryz.prog 174 := ⟨_, Tryz.func174, by kernel_rfl, by kernel_rfl⟩
instance : SCallee Tryz.prog 175 := ⟨_, Tryz.func175, by kernel_rfl, by kernel_rfl⟩
instance : SCallee Tryz.prog 176 := ⟨_, Tryz.func176, by kernel_rfl, by kernel_rfl⟩
instance : SCallee Tryz.prog 177 := ⟨_, Tryz.func177, by kernel_rfl, by kernel_rfl⟩
instance : SCallee Tryz.prog 178 := ⟨_, Tryz.func178, by kernel_rfl, by kernel_rfl⟩
instance : SCallee Tryz.prog 179 := ⟨_, Tryz.func179, by kernel_rfl, by kernel_rfl⟩
instance : SCallee Tryz.prog 180 := ⟨_, Tryz.func180, by kernel_rfl, by kernel_rfl⟩
instance : SCallee Tryz.prog 181 := ⟨_, Tryz.func181, by kernel_rfl, by kernel_rfl⟩
instance : SCallee Tryz.prog 182 := ⟨_, Tryz.func182, by kernel_rfl, by kernel_rfl⟩
instance : SCallee Tryz.prog 183 := ⟨_, Tryz.func183, by kernel_rfl, by kernel_rfl⟩
instance : SCallee Tryz.prog 184 := ⟨_, Tryz.func184, by kernel_rfl, by kernel_rfl⟩
instance : SCallee Tryz.prog 185 := ⟨_, Tryz.func185, by kernel_rfl, by kernel_rfl⟩
instance : SCallee Tryz.prog 186 := ⟨_, Tryz.func186, by kernel_rfl, by kernel_rfl⟩
instance : SCallee Tryz.prog 187 := ⟨_, Tryz.func187, by kernel_rfl, by kernel_rfl⟩
instance : SCallee Tryz.prog 188 := ⟨_, Tryz.func188, by kernel_rfl, by kernel_rfl⟩
instance : SCallee Tryz.prog 189 := ⟨_, Tryz.func189, by kernel_rfl, by kernel_rfl⟩
instance : SCallee Tryz.prog 190 := ⟨_, Tryz.func190, by kernel_rfl, by kernel_rfl⟩
instance : SCallee Tryz.prog 191 := ⟨_, Tryz.func191, by kernel_rfl, by kernel_rfl⟩
instance : SCallee Tryz.prog 192 := ⟨_, Tryz.func192, by kernel_rfl, by kernel_rfl⟩
end Go.Proofs.YtakijgpoaeggnaaGreat
