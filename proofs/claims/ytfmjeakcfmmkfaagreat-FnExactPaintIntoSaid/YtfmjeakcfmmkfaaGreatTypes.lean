/-
  The facts on the types and functions of this seat that the engine looks up by instance. Printed by a program.
-/
import Derived.Test.YtfmjeakcfmmkfaaGreatProg
import Derived.Test.YtfmjeakcfmmkfaaGreatSx
import Derived.KernelRfl
namespace Go.Proofs.YtfmjeakcfmmkfaaGreat
open Go Sx
abbrev sxu2 := SUnd.mk Tryz.underlying2
attribute [instance] sxu2
instance : SInf Tryz.prog 2 (.int .i64 0) 1 8 := ⟨by kernel_rfl⟩
abbrev sxu3 := SUnd.mk Tryz.underlying3
attribute [instance] sxu3
instance : SInf Tryz.prog 3 (.int .i64 0) 1 8 := ⟨by kernel_rfl⟩
abbrev sxu4 := SUnd.mk Tryz.underlying4
attribute [instance] sxu4
instance : SInf Tryz.prog 4 (.bool false) 1 1 := ⟨by kernel_rfl⟩
abbrev sxu5 := SUnd.mk Tryz.underlying5
attribute [instance] sxu5
instance : SInf Tryz.prog 5 (.int .u8 0) 1 1 := ⟨by kernel_rfl⟩
abbrev sxu9 := SUnd.mk Tryz.underlying9
attribute [instance] sxu9
instance : SInf Tryz.prog 9 (.string ⟨#[]⟩) 1 16 := ⟨by kernel_rfl⟩
abbrev sxu12 := SUnd.mk Tryz.underlying12
attribute [instance] sxu12
instance : SInf Tryz.prog 12 (.int .u64 0) 1 8 := ⟨by kernel_rfl⟩
abbrev sxu17 := SUnd.mk Tryz.underlying17
attribute [instance] sxu17
instance : SInf Tryz.prog 17 (.pointer none) 1 8 := ⟨by kernel_rfl⟩
abbrev sxu21 := SUnd.mk Tryz.underlying21
attribute [instance] sxu21
instance : SInf Tryz.prog 21 (.int .i32 0) 1 4 := ⟨by kernel_rfl⟩
abbrev sxu22 := SUnd.mk Tryz.underlying22
attribute [instance] sxu22
instance : SInf Tryz.prog 22 (.slice none 0 0) 1 24 := ⟨by kernel_rfl⟩
abbrev sxu24 := SUnd.mk Tryz.underlying24
attribute [instance] sxu24
instance : SInf Tryz.prog 24 (.slice none 0 0) 1 24 := ⟨by kernel_rfl⟩
abbrev sxu25 := SUnd.mk Tryz.underlying25
attribute [instance] sxu25
instance : SPl Tryz.prog 25 [(0, 1), (1, 1), (2, 1), (3, 1)] := ⟨_, Tryz.underlying25, by kernel_rfl⟩
instance : SFld Tryz.prog 25 0 0 := ⟨by kernel_rfl⟩
instance : SFld Tryz.prog 25 1 1 := ⟨by kernel_rfl⟩
instance : SFld Tryz.prog 25 2 2 := ⟨by kernel_rfl⟩
instance : SFld Tryz.prog 25 3 3 := ⟨by kernel_rfl⟩
instance : SInf Tryz.prog 25 (.agg #[.int .i64 0, .int .i64 0, .int .i64 0, .slice none 0 0]) 4 48 := ⟨by kernel_rfl⟩
abbrev sxu26 := SUnd.mk Tryz.underlying26
attribute [instance] sxu26
instance : SPl Tryz.prog 26 [(0, 1), (1, 1), (2, 1), (3, 1)] := ⟨_, Tryz.underlying26, by kernel_rfl⟩
instance : SFld Tryz.prog 26 0 0 := ⟨by kernel_rfl⟩
instance : SFld Tryz.prog 26 1 1 := ⟨by kernel_rfl⟩
instance : SFld Tryz.prog 26 2 2 := ⟨by kernel_rfl⟩
instance : SFld Tryz.prog 26 3 3 := ⟨by kernel_rfl⟩
instance : SInf Tryz.prog 26 (.agg #[.int .i64 0, .int .i64 0, .int .i64 0, .slice none 0 0]) 4 48 := ⟨by kernel_rfl⟩
abbrev sxu27 := SUnd.mk Tryz.underlying27
attribute [instance] sxu27
instance : SInf Tryz.prog 27 (.slice none 0 0) 1 24 := ⟨by kernel_rfl⟩
abbrev sxu30 := SUnd.mk Tryz.underlying30
attribute [instance] sxu30
instance : SInf Tryz.prog 30 (.slice none 0 0) 1 24 := ⟨by kernel_rfl⟩
abbrev sxu31 := SUnd.mk Tryz.underlying31
attribute [instance] sxu31
instance : SInf Tryz.prog 31 (.slice none 0 0) 1 24 := ⟨by kernel_rfl⟩
abbrev sxu32 := SUnd.mk Tryz.underlying32
attribute [instance] sxu32
instance : SInf Tryz.prog 32 (.slice none 0 0) 1 24 := ⟨by kernel_rfl⟩
abbrev sxu33 := SUnd.mk Tryz.underlying33
attribute [instance] sxu33
instance : SPl Tryz.prog 33 [(0, 1), (1, 1), (2, 1), (3, 4)] := ⟨_, Tryz.underlying33, by kernel_rfl⟩
instance : SFld Tryz.prog 33 0 0 := ⟨by kernel_rfl⟩
instance : SFld Tryz.prog 33 1 1 := ⟨by kernel_rfl⟩
instance : SFld Tryz.prog 33 2 2 := ⟨by kernel_rfl⟩
instance : SFld Tryz.prog 33 3 3 := ⟨by kernel_rfl⟩
instance : SInf Tryz.prog 33 (.agg #[.slice none 0 0, .slice none 0 0, .slice none 0 0, .int .i64 0, .int .i64 0, .int .i64 0, .slice none 0 0]) 7 120 := ⟨by kernel_rfl⟩
abbrev sxu34 := SUnd.mk Tryz.underlying34
attribute [instance] sxu34
instance : SPl Tryz.prog 34 [(0, 1), (1, 1), (2, 1), (3, 4)] := ⟨_, Tryz.underlying34, by kernel_rfl⟩
instance : SFld Tryz.prog 34 0 0 := ⟨by kernel_rfl⟩
instance : SFld Tryz.prog 34 1 1 := ⟨by kernel_rfl⟩
instance : SFld Tryz.prog 34 2 2 := ⟨by kernel_rfl⟩
instance : SFld Tryz.prog 34 3 3 := ⟨by kernel_rfl⟩
instance : SInf Tryz.prog 34 (.agg #[.slice none 0 0, .slice none 0 0, .slice none 0 0, .int .i64 0, .int .i64 0, .int .i64 0, .slice none 0 0]) 7 120 := ⟨by kernel_rfl⟩
abbrev sxu39 := SUnd.mk Tryz.underlying39
attribute [instance] sxu39
instance : SInf Tryz.prog 39 (.slice none 0 0) 1 24 := ⟨by kernel_rfl⟩
abbrev sxu41 := SUnd.mk Tryz.underlying41
attribute [instance] sxu41
instance : SInf Tryz.prog 41 (.slice none 0 0) 1 24 := ⟨by kernel_rfl⟩
abbrev sxu42 := SUnd.mk Tryz.underlying42
attribute [instance] sxu42
instance : SPl Tryz.prog 42 [(0, 1)] := ⟨_, Tryz.underlying42, by kernel_rfl⟩
instance : SFld Tryz.prog 42 0 0 := ⟨by kernel_rfl⟩
instance : SInf Tryz.prog 42 (.agg #[.slice none 0 0]) 1 24 := ⟨by kernel_rfl⟩
abbrev sxu43 := SUnd.mk Tryz.underlying43
attribute [instance] sxu43
instance : SPl Tryz.prog 43 [(0, 1)] := ⟨_, Tryz.underlying43, by kernel_rfl⟩
instance : SFld Tryz.prog 43 0 0 := ⟨by kernel_rfl⟩
instance : SInf Tryz.prog 43 (.agg #[.slice none 0 0]) 1 24 := ⟨by kernel_rfl⟩
abbrev sxu48 := SUnd.mk Tryz.underlying48
attribute [instance] sxu48
instance : SPl Tryz.prog 48 [(0, 1), (1, 1), (2, 1)] := ⟨_, Tryz.underlying48, by kernel_rfl⟩
instance : SFld Tryz.prog 48 0 0 := ⟨by kernel_rfl⟩
instance : SFld Tryz.prog 48 1 1 := ⟨by kernel_rfl⟩
instance : SFld Tryz.prog 48 2 2 := ⟨by kernel_rfl⟩
instance : SInf Tryz.prog 48 (.agg #[.int .i64 0, .int .i64 0, .slice none 0 0]) 3 40 := ⟨by kernel_rfl⟩
abbrev sxu49 := SUnd.mk Tryz.underlying49
attribute [instance] sxu49
instance : SPl Tryz.prog 49 [(0, 1), (1, 1), (2, 1)] := ⟨_, Tryz.underlying49, by kernel_rfl⟩
instance : SFld Tryz.prog 49 0 0 := ⟨by kernel_rfl⟩
instance : SFld Tryz.prog 49 1 1 := ⟨by kernel_rfl⟩
instance : SFld Tryz.prog 49 2 2 := ⟨by kernel_rfl⟩
instance : SInf Tryz.prog 49 (.agg #[.int .i64 0, .int .i64 0, .slice none 0 0]) 3 40 := ⟨by kernel_rfl⟩
abbrev sxu53 := SUnd.mk Tryz.underlying53
attribute [instance] sxu53
instance : SInf Tryz.prog 53 (.slice none 0 0) 1 24 := ⟨by kernel_rfl⟩
abbrev sxu54 := SUnd.mk Tryz.underlying54
attribute [instance] sxu54
instance : SPl Tryz.prog 54 [(0, 1), (1, 1), (2, 1), (3, 1)] := ⟨_, Tryz.underlying54, by kernel_rfl⟩
instance : SFld Tryz.prog 54 0 0 := ⟨by kernel_rfl⟩
instance : SFld Tryz.prog 54 1 1 := ⟨by kernel_rfl⟩
instance : SFld Tryz.prog 54 2 2 := ⟨by kernel_rfl⟩
instance : SFld Tryz.prog 54 3 3 := ⟨by kernel_rfl⟩
instance : SInf Tryz.prog 54 (.agg #[.int .i64 0, .int .i64 0, .int .i64 0, .slice none 0 0]) 4 48 := ⟨by kernel_rfl⟩
abbrev sxu55 := SUnd.mk Tryz.underlying55
attribute [instance] sxu55
instance : SPl Tryz.prog 55 [(0, 1), (1, 1), (2, 1), (3, 1)] := ⟨_, Tryz.underlying55, by kernel_rfl⟩
instance : SFld Tryz.prog 55 0 0 := ⟨by kernel_rfl⟩
instance : SFld Tryz.prog 55 1 1 := ⟨by kernel_rfl⟩
instance : SFld Tryz.prog 55 2 2 := ⟨by kernel_rfl⟩
instance : SFld Tryz.prog 55 3 3 := ⟨by kernel_rfl⟩
instance : SInf Tryz.prog 55 (.agg #[.int .i64 0, .int .i64 0, .int .i64 0, .slice none 0 0]) 4 48 := ⟨by kernel_rfl⟩
abbrev sxu56 := SUnd.mk Tryz.underlying56
attribute [instance] sxu56
instance : SPl Tryz.prog 56 [(0, 1), (1, 1)] := ⟨_, Tryz.underlying56, by kernel_rfl⟩
instance : SFld Tryz.prog 56 0 0 := ⟨by kernel_rfl⟩
instance : SFld Tryz.prog 56 1 1 := ⟨by kernel_rfl⟩
instance : SInf Tryz.prog 56 (.agg #[.slice none 0 0, .slice none 0 0]) 2 48 := ⟨by kernel_rfl⟩
abbrev sxu57 := SUnd.mk Tryz.underlying57
attribute [instance] sxu57
instance : SPl Tryz.prog 57 [(0, 1), (1, 1)] := ⟨_, Tryz.underlying57, by kernel_rfl⟩
instance : SFld Tryz.prog 57 0 0 := ⟨by kernel_rfl⟩
instance : SFld Tryz.prog 57 1 1 := ⟨by kernel_rfl⟩
instance : SInf Tryz.prog 57 (.agg #[.slice none 0 0, .slice none 0 0]) 2 48 := ⟨by kernel_rfl⟩
abbrev sxu62 := SUnd.mk Tryz.underlying62
attribute [instance] sxu62
instance : SPl Tryz.prog 62 [(0, 1), (1, 1)] := ⟨_, Tryz.underlying62, by kernel_rfl⟩
instance : SFld Tryz.prog 62 0 0 := ⟨by kernel_rfl⟩
instance : SFld Tryz.prog 62 1 1 := ⟨by kernel_rfl⟩
instance : SInf Tryz.prog 62 (.agg #[.slice none 0 0, .slice none 0 0]) 2 48 := ⟨by kernel_rfl⟩
abbrev sxu76 := SUnd.mk Tryz.underlying76
attribute [instance] sxu76
instance : SPl Tryz.prog 76 [(0, 1), (1, 1), (2, 1)] := ⟨_, Tryz.underlying76, by kernel_rfl⟩
instance : SFld Tryz.prog 76 0 0 := ⟨by kernel_rfl⟩
instance : SFld Tryz.prog 76 1 1 := ⟨by kernel_rfl⟩
instance : SFld Tryz.prog 76 2 2 := ⟨by kernel_rfl⟩
instance : SInf Tryz.prog 76 (.agg #[.int .i64 0, .int .i64 0, .slice none 0 0]) 3 40 := ⟨by kernel_rfl⟩
abbrev sxu77 := SUnd.mk Tryz.underlying77
attribute [instance] sxu77
instance : SInf Tryz.prog 77 (.slice none 0 0) 1 24 := ⟨by kernel_rfl⟩
abbrev sxu78 := SUnd.mk Tryz.underlying78
attribute [instance] sxu78
instance : SPl Tryz.prog 78 [(0, 1)] := ⟨_, Tryz.underlying78, by kernel_rfl⟩
instance : SFld Tryz.prog 78 0 0 := ⟨by kernel_rfl⟩
instance : SInf Tryz.prog 78 (.agg #[.slice none 0 0]) 1 24 := ⟨by kernel_rfl⟩
abbrev sxu79 := SUnd.mk Tryz.underlying79
attribute [instance] sxu79
instance : SPl Tryz.prog 79 [(0, 1)] := ⟨_, Tryz.underlying79, by kernel_rfl⟩
instance : SFld Tryz.prog 79 0 0 := ⟨by kernel_rfl⟩
instance : SInf Tryz.prog 79 (.agg #[.slice none 0 0]) 1 24 := ⟨by kernel_rfl⟩
abbrev sxu88 := SUnd.mk Tryz.underlying88
attribute [instance] sxu88
instance : SInf Tryz.prog 88 (.slice none 0 0) 1 24 := ⟨by kernel_rfl⟩
abbrev sxu89 := SUnd.mk Tryz.underlying89
attribute [instance] sxu89
instance : SInf Tryz.prog 89 (.slice none 0 0) 1 24 := ⟨by kernel_rfl⟩
abbrev sxu90 := SUnd.mk Tryz.underlying90
attribute [instance] sxu90
instance : SPl Tryz.prog 90 [(0, 1), (1, 1), (2, 1), (3, 4)] := ⟨_, Tryz.underlying90, by kernel_rfl⟩
instance : SFld Tryz.prog 90 0 0 := ⟨by kernel_rfl⟩
instance : SFld Tryz.prog 90 1 1 := ⟨by kernel_rfl⟩
instance : SFld Tryz.prog 90 2 2 := ⟨by kernel_rfl⟩
instance : SFld Tryz.prog 90 3 3 := ⟨by kernel_rfl⟩
instance : SInf Tryz.prog 90 (.agg #[.slice none 0 0, .slice none 0 0, .slice none 0 0, .int .i64 0, .int .i64 0, .int .i64 0, .slice none 0 0]) 7 120 := ⟨by kernel_rfl⟩
abbrev sxu91 := SUnd.mk Tryz.underlying91
attribute [instance] sxu91
instance : SPl Tryz.prog 91 [(0, 1), (1, 1), (2, 1), (3, 4)] := ⟨_, Tryz.underlying91, by kernel_rfl⟩
instance : SFld Tryz.prog 91 0 0 := ⟨by kernel_rfl⟩
instance : SFld Tryz.prog 91 1 1 := ⟨by kernel_rfl⟩
instance : SFld Tryz.prog 91 2 2 := ⟨by kernel_rfl⟩
instance : SFld Tryz.prog 91 3 3 := ⟨by kernel_rfl⟩
instance : SInf Tryz.prog 91 (.agg #[.slice none 0 0, .slice none 0 0, .slice none 0 0, .int .i64 0, .int .i64 0, .int .i64 0, .slice none 0 0]) 7 120 := ⟨by kernel_rfl⟩
abbrev sxu98 := SUnd.mk Tryz.underlying98
attribute [instance] sxu98
instance : SInf Tryz.prog 98 (.pointer none) 1 8 := ⟨by kernel_rfl⟩
abbrev sxu109 := SUnd.mk Tryz.underlying109
attribute [instance] sxu109
instance : SPl Tryz.prog 109 [(0, 1), (1, 1), (2, 1), (3, 1), (4, 3)] := ⟨_, Tryz.underlying109, by kernel_rfl⟩
instance : SFld Tryz.prog 109 0 0 := ⟨by kernel_rfl⟩
instance : SFld Tryz.prog 109 1 1 := ⟨by kernel_rfl⟩
instance : SFld Tryz.prog 109 2 2 := ⟨by kernel_rfl⟩
instance : SFld Tryz.prog 109 3 3 := ⟨by kernel_rfl⟩
instance : SFld Tryz.prog 109 4 4 := ⟨by kernel_rfl⟩
instance : SInf Tryz.prog 109 (.agg #[.int .i64 0, .int .i64 0, .int .i64 0, .int .i64 0, .int .i64 0, .int .i64 0, .slice none 0 0]) 7 72 := ⟨by kernel_rfl⟩
abbrev sxu110 := SUnd.mk Tryz.underlying110
attribute [instance] sxu110
instance : SPl Tryz.prog 110 [(0, 1), (1, 1), (2, 1), (3, 1), (4, 3)] := ⟨_, Tryz.underlying110, by kernel_rfl⟩
instance : SFld Tryz.prog 110 0 0 := ⟨by kernel_rfl⟩
instance : SFld Tryz.prog 110 1 1 := ⟨by kernel_rfl⟩
instance : SFld Tryz.prog 110 2 2 := ⟨by kernel_rfl⟩
instance : SFld Tryz.prog 110 3 3 := ⟨by kernel_rfl⟩
instance : SFld Tryz.prog 110 4 4 := ⟨by kernel_rfl⟩
instance : SInf Tryz.prog 110 (.agg #[.int .i64 0, .int .i64 0, .int .i64 0, .int .i64 0, .int .i64 0, .int .i64 0, .slice none 0 0]) 7 72 := ⟨by kernel_rfl⟩
abbrev sxu111 := SUnd.mk Tryz.underlying111
attribute [instance] sxu111
instance : SInf Tryz.prog 111 (.agg #[.int .i64 0, .int .i64 0, .int .i64 0, .int .i64 0, .int .i64 0, .int .i64 0, .int .i64 0, .int .i64 0, .int .i64 0, .int .i64 0, .int .i64 0, .int .i64 0, .int .i64 0, .int .i64 0, .int .i64 0, .int .i64 0]) 16 128 := ⟨by kernel_rfl⟩
abbrev sxu112 := SUnd.mk Tryz.underlying112
attribute [instance] sxu112
instance : SInf Tryz.prog 112 (.agg #[.int .i64 0, .int .i64 0, .int .i64 0, .int .i64 0, .int .i64 0, .int .i64 0, .int .i64 0, .int .i64 0, .int .i64 0, .int .i64 0, .int .i64 0, .int .i64 0, .int .i64 0, .int .i64 0, .int .i64 0, .int .i64 0]) 16 128 := ⟨by kernel_rfl⟩
abbrev sxu122 := SUnd.mk Tryz.underlying122
attribute [instance] sxu122
instance : SPl Tryz.prog 122 [(0, 1), (1, 1), (2, 1), (3, 1)] := ⟨_, Tryz.underlying122, by kernel_rfl⟩
instance : SFld Tryz.prog 122 0 0 := ⟨by kernel_rfl⟩
instance : SFld Tryz.prog 122 1 1 := ⟨by kernel_rfl⟩
instance : SFld Tryz.prog 122 2 2 := ⟨by kernel_rfl⟩
instance : SFld Tryz.prog 122 3 3 := ⟨by kernel_rfl⟩
instance : SInf Tryz.prog 122 (.agg #[.int .i64 0, .int .i64 0, .int .i64 0, .int .i64 0]) 4 32 := ⟨by kernel_rfl⟩
abbrev sxu123 := SUnd.mk Tryz.underlying123
attribute [instance] sxu123
instance : SPl Tryz.prog 123 [(0, 1), (1, 1), (2, 1), (3, 1)] := ⟨_, Tryz.underlying123, by kernel_rfl⟩
instance : SFld Tryz.prog 123 0 0 := ⟨by kernel_rfl⟩
instance : SFld Tryz.prog 123 1 1 := ⟨by kernel_rfl⟩
instance : SFld Tryz.prog 123 2 2 := ⟨by kernel_rfl⟩
instance : SFld Tryz.prog 123 3 3 := ⟨by kernel_rfl⟩
instance : SInf Tryz.prog 123 (.agg #[.int .i64 0, .int .i64 0, .int .i64 0, .int .i64 0]) 4 32 := ⟨by kernel_rfl⟩
abbrev sxu135 := SUnd.mk Tryz.underlying135
attribute [instance] sxu135
instance : SInf Tryz.prog 135 (.slice none 0 0) 1 24 := ⟨by kernel_rfl⟩
abbrev sxu138 := SUnd.mk Tryz.underlying138
attribute [instance] sxu138
instance : SPl Tryz.prog 138 [(0, 1), (1, 1), (2, 1), (3, 1), (4, 1), (5, 1), (6, 1), (7, 1), (8, 3)] := ⟨_, Tryz.underlying138, by kernel_rfl⟩
instance : SFld Tryz.prog 138 0 0 := ⟨by kernel_rfl⟩
instance : SFld Tryz.prog 138 1 1 := ⟨by kernel_rfl⟩
instance : SFld Tryz.prog 138 2 2 := ⟨by kernel_rfl⟩
instance : SFld Tryz.prog 138 3 3 := ⟨by kernel_rfl⟩
instance : SFld Tryz.prog 138 4 4 := ⟨by kernel_rfl⟩
instance : SFld Tryz.prog 138 5 5 := ⟨by kernel_rfl⟩
instance : SFld Tryz.prog 138 6 6 := ⟨by kernel_rfl⟩
instance : SFld Tryz.prog 138 7 7 := ⟨by kernel_rfl⟩
instance : SFld Tryz.prog 138 8 8 := ⟨by kernel_rfl⟩
instance : SInf Tryz.prog 138 (.agg #[.int .i64 0, .int .i64 0, .int .i64 0, .int .i64 0, .int .i64 0, .int .i64 0, .int .i64 0, .bool false, .int .i64 0, .int .i64 0, .slice none 0 0]) 11 104 := ⟨by kernel_rfl⟩
abbrev sxu139 := SUnd.mk Tryz.underlying139
attribute [instance] sxu139
instance : SPl Tryz.prog 139 [(0, 1), (1, 1), (2, 1), (3, 1), (4, 1), (5, 1), (6, 1), (7, 1), (8, 3)] := ⟨_, Tryz.underlying139, by kernel_rfl⟩
instance : SFld Tryz.prog 139 0 0 := ⟨by kernel_rfl⟩
instance : SFld Tryz.prog 139 1 1 := ⟨by kernel_rfl⟩
instance : SFld Tryz.prog 139 2 2 := ⟨by kernel_rfl⟩
instance : SFld Tryz.prog 139 3 3 := ⟨by kernel_rfl⟩
instance : SFld Tryz.prog 139 4 4 := ⟨by kernel_rfl⟩
instance : SFld Tryz.prog 139 5 5 := ⟨by kernel_rfl⟩
instance : SFld Tryz.prog 139 6 6 := ⟨by kernel_rfl⟩
instance : SFld Tryz.prog 139 7 7 := ⟨by kernel_rfl⟩
instance : SFld Tryz.prog 139 8 8 := ⟨by kernel_rfl⟩
instance : SInf Tryz.prog 139 (.agg #[.int .i64 0, .int .i64 0, .int .i64 0, .int .i64 0, .int .i64 0, .int .i64 0, .int .i64 0, .bool false, .int .i64 0, .int .i64 0, .slice none 0 0]) 11 104 := ⟨by kernel_rfl⟩
abbrev sxu161 := SUnd.mk Tryz.underlying161
attribute [instance] sxu161
instance : SPl Tryz.prog 161 [(0, 1), (1, 1), (2, 1)] := ⟨_, Tryz.underlying161, by kernel_rfl⟩
instance : SFld Tryz.prog 161 0 0 := ⟨by kernel_rfl⟩
instance : SFld Tryz.prog 161 1 1 := ⟨by kernel_rfl⟩
instance : SFld Tryz.prog 161 2 2 := ⟨by kernel_rfl⟩
instance : SInf Tryz.prog 161 (.agg #[.slice none 0 0, .int .i64 0, .int .i64 0]) 3 40 := ⟨by kernel_rfl⟩
abbrev sxu162 := SUnd.mk Tryz.underlying162
attribute [instance] sxu162
instance : SPl Tryz.prog 162 [(0, 1), (1, 1), (2, 1)] := ⟨_, Tryz.underlying162, by kernel_rfl⟩
instance : SFld Tryz.prog 162 0 0 := ⟨by kernel_rfl⟩
instance : SFld Tryz.prog 162 1 1 := ⟨by kernel_rfl⟩
instance : SFld Tryz.prog 162 2 2 := ⟨by kernel_rfl⟩
instance : SInf Tryz.prog 162 (.agg #[.slice none 0 0, .int .i64 0, .int .i64 0]) 3 40 := ⟨by kernel_rfl⟩
abbrev sxu168 := SUnd.mk Tryz.underlying168
attribute [instance] sxu168
instance : SInf Tryz.prog 168 (.map none) 1 8 := ⟨by kernel_rfl⟩
abbrev sxu176 := SUnd.mk Tryz.underlying176
attribute [instance] sxu176
instance : SPl Tryz.prog 176 [(0, 1), (1, 1), (2, 1), (3, 1), (4, 1), (5, 1), (6, 1), (7, 1), (8, 3)] := ⟨_, Tryz.underlying176, by kernel_rfl⟩
instance : SFld Tryz.prog 176 0 0 := ⟨by kernel_rfl⟩
instance : SFld Tryz.prog 176 1 1 := ⟨by kernel_rfl⟩
instance : SFld Tryz.prog 176 2 2 := ⟨by kernel_rfl⟩
instance : SFld Tryz.prog 176 3 3 := ⟨by kernel_rfl⟩
instance : SFld Tryz.prog 176 4 4 := ⟨by kernel_rfl⟩
instance : SFld Tryz.prog 176 5 5 := ⟨by kernel_rfl⟩
instance : SFld Tryz.prog 176 6 6 := ⟨by kernel_rfl⟩
instance : SFld Tryz.prog 176 7 7 := ⟨by kernel_rfl⟩
instance : SFld Tryz.prog 176 8 8 := ⟨by kernel_rfl⟩
instance : SInf Tryz.prog 176 (.agg #[.int .i64 0, .int .i64 0, .int .i64 0, .int .i64 0, .int .i64 0, .int .i64 0, .int .i64 0, .bool false, .int .i64 0, .int .i64 0, .slice none 0 0]) 11 104 := ⟨by kernel_rfl⟩
abbrev sxu177 := SUnd.mk Tryz.underlying177
attribute [instance] sxu177
instance : SPl Tryz.prog 177 [(0, 1), (1, 1), (2, 1), (3, 1), (4, 1), (5, 1), (6, 1), (7, 1), (8, 3)] := ⟨_, Tryz.underlying177, by kernel_rfl⟩
instance : SFld Tryz.prog 177 0 0 := ⟨by kernel_rfl⟩
instance : SFld Tryz.prog 177 1 1 := ⟨by kernel_rfl⟩
instance : SFld Tryz.prog 177 2 2 := ⟨by kernel_rfl⟩
instance : SFld Tryz.prog 177 3 3 := ⟨by kernel_rfl⟩
instance : SFld Tryz.prog 177 4 4 := ⟨by kernel_rfl⟩
instance : SFld Tryz.prog 177 5 5 := ⟨by kernel_rfl⟩
instance : SFld Tryz.prog 177 6 6 := ⟨by kernel_rfl⟩
instance : SFld Tryz.prog 177 7 7 := ⟨by kernel_rfl⟩
instance : SFld Tryz.prog 177 8 8 := ⟨by kernel_rfl⟩
instance : SInf Tryz.prog 177 (.agg #[.int .i64 0, .int .i64 0, .int .i64 0, .int .i64 0, .int .i64 0, .int .i64 0, .int .i64 0, .bool false, .int .i64 0, .int .i64 0, .slice none 0 0]) 11 104 := ⟨by kernel_rfl⟩
abbrev sxu186 := SUnd.mk Tryz.underlying186
attribute [instance] sxu186
instance : SInf Tryz.prog 186 (.int .u64 0) 1 8 := ⟨by kernel_rfl⟩
abbrev sxu188 := SUnd.mk Tryz.underlying188
attribute [instance] sxu188
instance : SPl Tryz.prog 188 [(0, 1), (1, 1), (2, 1), (3, 1)] := ⟨_, Tryz.underlying188, by kernel_rfl⟩
instance : SFld Tryz.prog 188 0 0 := ⟨by kernel_rfl⟩
instance : SFld Tryz.prog 188 1 1 := ⟨by kernel_rfl⟩
instance : SFld Tryz.prog 188 2 2 := ⟨by kernel_rfl⟩
instance : SFld Tryz.prog 188 3 3 := ⟨by kernel_rfl⟩
instance : SInf Tryz.prog 188 (.agg #[.int .i64 0, .int .i64 0, .int .i64 0, .int .i64 0]) 4 32 := ⟨by kernel_rfl⟩
abbrev sxu203 := SUnd.mk Tryz.underlying203
attribute [instance] sxu203
instance : SInf Tryz.prog 203 (.int .u32 0) 1 4 := ⟨by kernel_rfl⟩
abbrev sxu206 := SUnd.mk Tryz.underlying206
attribute [instance] sxu206
instance : SInf Tryz.prog 206 (.int .u64 0) 1 8 := ⟨by kernel_rfl⟩
abbrev sxu221 := SUnd.mk Tryz.underlying221
attribute [instance] sxu221
instance : SInf Tryz.prog 221 (.pointer none) 1 8 := ⟨by kernel_rfl⟩
abbrev sxu224 := SUnd.mk Tryz.underlying224
attribute [instance] sxu224
instance : SPl Tryz.prog 224 [(0, 1), (1, 1), (2, 1), (3, 1), (4, 1), (5, 1), (6, 1), (7, 1), (8, 1), (9, 1), (10, 1)] := ⟨_, Tryz.underlying224, by kernel_rfl⟩
instance : SFld Tryz.prog 224 0 0 := ⟨by kernel_rfl⟩
instance : SFld Tryz.prog 224 1 1 := ⟨by kernel_rfl⟩
instance : SFld Tryz.prog 224 2 2 := ⟨by kernel_rfl⟩
instance : SFld Tryz.prog 224 3 3 := ⟨by kernel_rfl⟩
instance : SFld Tryz.prog 224 4 4 := ⟨by kernel_rfl⟩
instance : SFld Tryz.prog 224 5 5 := ⟨by kernel_rfl⟩
instance : SFld Tryz.prog 224 6 6 := ⟨by kernel_rfl⟩
instance : SFld Tryz.prog 224 7 7 := ⟨by kernel_rfl⟩
instance : SFld Tryz.prog 224 8 8 := ⟨by kernel_rfl⟩
instance : SFld Tryz.prog 224 9 9 := ⟨by kernel_rfl⟩
instance : SFld Tryz.prog 224 10 10 := ⟨by kernel_rfl⟩
instance : SInf Tryz.prog 224 (.agg #[.int .u64 0, .int .u64 0, .int .u32 0, .int .u8 0, .int .u8 0, .int .u8 0, .int .u8 0, .nilFunc, .pointer none, .int .i32 0, .int .i32 0]) 11 48 := ⟨by kernel_rfl⟩
instance : SCallee Tryz.prog 3 := ⟨_, Tryz.func3, by kernel_rfl, by kernel_rfl⟩
instance : SCallee Tryz.prog 4 := ⟨_, Tryz.func4, by kernel_rfl, by kernel_rfl⟩
instance : SCallee Tryz.prog 5 := ⟨_, Tryz.func5, by kernel_rfl, by kernel_rfl⟩
instance : SCallee Tryz.prog 6 := ⟨_, Tryz.func6, by kernel_rfl, by kernel_rfl⟩
instance : SCallee Tryz.prog 7 := ⟨_, Tryz.func7, by kernel_rfl, by kernel_rfl⟩
instance : SCallee Tryz.prog 8 := ⟨_, Tryz.func8, by kernel_rfl, by kernel_rfl⟩
instance : SCallee Tryz.prog 9 := ⟨_, Tryz.func9, by kernel_rfl, by kernel_rfl⟩
instance : SCallee Tryz.prog 10 := ⟨_, Tryz.func10, by kernel_rfl, by kernel_rfl⟩
instance : SCallee Tryz.prog 11 := ⟨_, Tryz.func11, by kernel_rfl, by kernel_rfl⟩
instance : SCallee Tryz.prog 12 := ⟨_, Tryz.func12, by kernel_rfl, by kernel_rfl⟩
instance : SCallee Tryz.prog 13 := ⟨_, Tryz.func13, by kernel_rfl, by kernel_rfl⟩
instance : SCallee Tryz.prog 14 := ⟨_, Tryz.func14, by kernel_rfl, by kernel_rfl⟩
instance : SCallee Tryz.prog 15 := ⟨_, Tryz.func15, by kernel_rfl, by kernel_rfl⟩
instance : SCallee Tryz.prog 16 := ⟨_, Tryz.func16, by kernel_rfl, by kernel_rfl⟩
instance : SCallee Tryz.prog 17 := ⟨_, Tryz.func17, by kernel_rfl, by kernel_rfl⟩
instance : SCallee Tryz.prog 18 := ⟨_, Tryz.func18, by kernel_rfl, by kernel_rfl⟩
instance : SCallee Tryz.prog 19 := ⟨_, Tryz.func19, by kernel_rfl, by kernel_rfl⟩
instance : SCallee Tryz.prog 20 := ⟨_, Tryz.func20, by kernel_rfl, by kernel_rfl⟩
instance : SCallee Tryz.prog 21 := ⟨_, Tryz.func21, by kernel_rfl, by kernel_rfl⟩
instance : SCallee Tryz.prog 22 := ⟨_, Tryz.func22, by kernel_rfl, by kernel_rfl⟩
instance : SCallee Tryz.prog 23 := ⟨_, Tryz.func23, by kernel_rfl, by kernel_rfl⟩
instance : SCallee Tryz.prog 24 := ⟨_, Tryz.func24, by kernel_rfl, by kernel_rfl⟩
instance : SCallee Tryz.prog 25 := ⟨_, Tryz.func25, by kernel_rfl, by kernel_rfl⟩
instance : SCallee Tryz.prog 26 := ⟨_, Tryz.func26, by kernel_rfl, by kernel_rfl⟩
instance : SCallee Tryz.prog 27 := ⟨_, Tryz.func27, by kernel_rfl, by kernel_rfl⟩
instance : SCallee Tryz.prog 28 := ⟨_, Tryz.func28, by kernel_rfl, by kernel_rfl⟩
instance : SCallee Tryz.prog 29 := ⟨_, Tryz.func29, by kernel_rfl, by kernel_rfl⟩
instance : SCallee Tryz.prog 30 := ⟨_, Tryz.func30, by kernel_rfl, by kernel_rfl⟩
instance : SCallee Tryz.prog 31 := ⟨_, Tryz.func31, by kernel_rfl, by kernel_rfl⟩
instance : SCallee Tryz.prog 32 := ⟨_, Tryz.func32, by kernel_rfl, by kernel_rfl⟩
instance : SCallee Tryz.prog 33 := ⟨_, Tryz.func33, by kernel_rfl, by kernel_rfl⟩
instance : SCallee Tryz.prog 34 := ⟨_, Tryz.func34, by kernel_rfl, by kernel_rfl⟩
instance : SCallee Tryz.prog 35 := ⟨_, Tryz.func35, by kernel_rfl, by kernel_rfl⟩
instance : SCallee Tryz.prog 36 := ⟨_, Tryz.func36, by kernel_rfl, by kernel_rfl⟩
instance : SCallee Tryz.prog 37 := ⟨_, Tryz.func37, by kernel_rfl, by kernel_rfl⟩
instance : SCallee Tryz.prog 38 := ⟨_, Tryz.func38, by kernel_rfl, by kernel_rfl⟩
instance : SCallee Tryz.prog 39 := ⟨_, Tryz.func39, by kernel_rfl, by kernel_rfl⟩
instance : SCallee Tryz.prog 40 := ⟨_, Tryz.func40, by kernel_rfl, by kernel_rfl⟩
instance : SCallee Tryz.prog 41 := ⟨_, Tryz.func41, by kernel_rfl, by kernel_rfl⟩
instance : SCallee Tryz.prog 42 := ⟨_, Tryz.func42, by kernel_rfl, by kernel_rfl⟩
instance : SCallee Tryz.prog 43 := ⟨_, Tryz.func43, by kernel_rfl, by kernel_rfl⟩
instance : SCallee Tryz.prog 44 := ⟨_, Tryz.func44, by kernel_rfl, by kernel_rfl⟩
instance : SCallee Tryz.prog 45 := ⟨_, Tryz.func45, by kernel_rfl, by kernel_rfl⟩
instance : SCallee Tryz.prog 46 := ⟨_, Tryz.func46, by kernel_rfl, by kernel_rfl⟩
instance : SCallee Tryz.prog 47 := ⟨_, Tryz.func47, by kernel_rfl, by kernel_rfl⟩
instance : SCallee Tryz.prog 48 := ⟨_, Tryz.func48, by kernel_rfl, by kernel_rfl⟩
instance : SCallee Tryz.prog 49 := ⟨_, Tryz.func49, by kernel_rfl, by kernel_rfl⟩
instance : SCallee Tryz.prog 50 := ⟨_, Tryz.func50, by kernel_rfl, by kernel_rfl⟩
instance : SCallee Tryz.prog 51 := ⟨_, Tryz.func51, by kernel_rfl, by kernel_rfl⟩
instance : SCallee Tryz.prog 52 := ⟨_, Tryz.func52, by kernel_rfl, by kernel_rfl⟩
instance : SCallee Tryz.prog 53 := ⟨_, Tryz.func53, by kernel_rfl, by kernel_rfl⟩
instance : SCallee Tryz.prog 54 := ⟨_, Tryz.func54, by kernel_rfl, by kernel_rfl⟩
instance : SCallee Tryz.prog 55 := ⟨_, Tryz.func55, by kernel_rfl, by kernel_rfl⟩
instance : SCallee Tryz.prog 56 := ⟨_, Tryz.func56, by kernel_rfl, by kernel_rfl⟩
instance : SCallee Tryz.prog 57 := ⟨_, Tryz.func57, by kernel_rfl, by kernel_rfl⟩
instance : SCallee Tryz.prog 58 := ⟨_, Tryz.func58, by kernel_rfl, by kernel_rfl⟩
instance : SCallee Tryz.prog 59 := ⟨_, Tryz.func59, by kernel_rfl, by kernel_rfl⟩
instance : SCallee Tryz.prog 60 := ⟨_, Tryz.func60, by kernel_rfl, by kernel_rfl⟩
instance : SCallee Tryz.prog 61 := ⟨_, Tryz.func61, by kernel_rfl, by kernel_rfl⟩
instance : SCallee Tryz.prog 62 := ⟨_, Tryz.func62, by kernel_rfl, by kernel_rfl⟩
instance : SCallee Tryz.prog 63 := ⟨_, Tryz.func63, by kernel_rfl, by kernel_rfl⟩
instance : SCallee Tryz.prog 64 := ⟨_, Tryz.func64, by kernel_rfl, by kernel_rfl⟩
instance : SCallee Tryz.prog 65 := ⟨_, Tryz.func65, by kernel_rfl, by kernel_rfl⟩
instance : SCallee Tryz.prog 66 := ⟨_, Tryz.func66, by kernel_rfl, by kernel_rfl⟩
instance : SCallee Tryz.prog 67 := ⟨_, Tryz.func67, by kernel_rfl, by kernel_rfl⟩
instance : SCallee Tryz.prog 68 := ⟨_, Tryz.func68, by kernel_rfl, by kernel_rfl⟩
instance : SCallee Tryz.prog 69 := ⟨_, Tryz.func69, by kernel_rfl, by kernel_rfl⟩
instance : SCallee Tryz.prog 70 := ⟨_, Tryz.func70, by kernel_rfl, by kernel_rfl⟩
instance : SCallee Tryz.prog 71 := ⟨_, Tryz.func71, by kernel_rfl, by kernel_rfl⟩
instance : SCallee Tryz.prog 72 := ⟨_, Tryz.func72, by kernel_rfl, by kernel_rfl⟩
instance : SCallee Tryz.prog 73 := ⟨_, Tryz.func73, by kernel_rfl, by kernel_rfl⟩
instance : SCallee Tryz.prog 74 := ⟨_, Tryz.func74, by kernel_rfl, by kernel_rfl⟩
instance : SCallee Tryz.prog 75 := ⟨_, Tryz.func75, by kernel_rfl, by kernel_rfl⟩
instance : SCallee Tryz.prog 76 := ⟨_, Tryz.func76, by kernel_rfl, by kernel_rfl⟩
instance : SCallee Tryz.prog 77 := ⟨_, Tryz.func77, by kernel_rfl, by kernel_rfl⟩
instance : SCallee Tryz.prog 78 := ⟨_, Tryz.func78, by kernel_rfl, by kernel_rfl⟩
instance : SCallee Tryz.prog 79 := ⟨_, Tryz.func79, by kernel_rfl, by kernel_rfl⟩
instance : SCallee Tryz.prog 80 := ⟨_, Tryz.func80, by kernel_rfl, by kernel_rfl⟩
instance : SCallee Tryz.prog 81 := ⟨_, Tryz.func81, by kernel_rfl, by kernel_rfl⟩
instance : SCallee Tryz.prog 82 := ⟨_, Tryz.func82, by kernel_rfl, by kernel_rfl⟩
instance : SCallee Tryz.prog 83 := ⟨_, Tryz.func83, by kernel_rfl, by kernel_rfl⟩
instance : SCallee Tryz.prog 84 := ⟨_, Tryz.func84, by kernel_rfl, by kernel_rfl⟩
instance : SCallee Tryz.prog 85 := ⟨_, Tryz.func85, by kernel_rfl, by kernel_rfl⟩
instance : SCallee Tryz.prog 86 := ⟨_, Tryz.func86, by kernel_rfl, by kernel_rfl⟩
instance : SCallee Tryz.prog 87 := ⟨_, Tryz.func87, by kernel_rfl, by kernel_rfl⟩
instance : SCallee Tryz.prog 88 := ⟨_, Tryz.func88, by kernel_rfl, by kernel_rfl⟩
instance : SCallee Tryz.prog 89 := ⟨_, Tryz.func89, by kernel_rfl, by kernel_rfl⟩
instance : SCallee Tryz.prog 90 := ⟨_, Tryz.func90, by kernel_rfl, by kernel_rfl⟩
instance : SCallee Tryz.prog 91 := ⟨_, Tryz.func91, by kernel_rfl, by kernel_rfl⟩
instance : SCallee Tryz.prog 92 := ⟨_, Tryz.func92, by kernel_rfl, by kernel_rfl⟩
instance : SCallee Tryz.prog 93 := ⟨_, Tryz.func93, by kernel_rfl, by kernel_rfl⟩
instance : SCallee Tryz.prog 94 := ⟨_, Tryz.func94, by kernel_rfl, by kernel_rfl⟩
instance : SCallee Tryz.prog 95 := ⟨_, Tryz.func95, by kernel_rfl, by kernel_rfl⟩
instance : SCallee Tryz.prog 96 := ⟨_, Tryz.func96, by kernel_rfl, by kernel_rfl⟩
instance : SCallee Tryz.prog 97 := ⟨_, Tryz.func97, by kernel_rfl, by kernel_rfl⟩
instance : SCallee Tryz.prog 98 := ⟨_, Tryz.func98, by kernel_rfl, by kernel_rfl⟩
instance : SCallee Tryz.prog 99 := ⟨_, Tryz.func99, by kernel_rfl, by kernel_rfl⟩
instance : SCallee Tryz.prog 100 := ⟨_, Tryz.func100, by kernel_rfl, by kernel_rfl⟩
instance : SCallee Tryz.prog 101 := ⟨_, Tryz.func101, by kernel_rfl, by kernel_rfl⟩
instance : SCallee Tryz.prog 102 := ⟨_, Tryz.func102, by kernel_rfl, by kernel_rfl⟩
instance : SCallee Tryz.prog 103 := ⟨_, Tryz.func103, by kernel_rfl, by kernel_rfl⟩
instance : SCallee Tryz.prog 104 := ⟨_, Tryz.func104, by kernel_rfl, by kernel_rfl⟩
instance : SCallee Tryz.prog 105 := ⟨_, Tryz.func105, by kernel_rfl, by kernel_rfl⟩
instance : SCallee Tryz.prog 106 := ⟨_, Tryz.func106, by kernel_rfl, by kernel_rfl⟩
instance : SCallee Tryz.prog 107 := ⟨_, Tryz.func107, by kernel_rfl, by kernel_rfl⟩
instance : SCallee Tryz.prog 108 := ⟨_, Tryz.func108, by kernel_rfl, by kernel_rfl⟩
instance : SCallee Tryz.prog 109 := ⟨_, Tryz.func109, by kernel_rfl, by kernel_rfl⟩
instance : SCallee Tryz.prog 110 := ⟨_, Tryz.func110, by kernel_rfl, by kernel_rfl⟩
instance : SCallee Tryz.prog 111 := ⟨_, Tryz.func111, by kernel_rfl, by kernel_rfl⟩
instance : SCallee Tryz.prog 112 := ⟨_, Tryz.func112, by kernel_rfl, by kernel_rfl⟩
instance : SCallee Tryz.prog 113 := ⟨_, Tryz.func113, by kernel_rfl, by kernel_rfl⟩
instance : SCallee Tryz.prog 114 := ⟨_, Tryz.func114, by kernel_rfl, by kernel_rfl⟩
instance : SCallee Tryz.prog 115 := ⟨_, Tryz.func115, by kernel_rfl, by kernel_rfl⟩
instance : SCallee Tryz.prog 116 := ⟨_, Tryz.func116, by kernel_rfl, by kernel_rfl⟩
instance : SCallee Tryz.prog 117 := ⟨_, Tryz.func117, by kernel_rfl, by kernel_rfl⟩
instance : SCallee Tryz.prog 118 := ⟨_, Tryz.func118, by kernel_rfl, by kernel_rfl⟩
instance : SCallee Tryz.prog 119 := ⟨_, Tryz.func119, by kernel_rfl, by kernel_rfl⟩
instance : SCallee Tryz.prog 120 := ⟨_, Tryz.func120, by kernel_rfl, by kernel_rfl⟩
instance : SCallee Tryz.prog 121 := ⟨_, Tryz.func121, by kernel_rfl, by kernel_rfl⟩
instance : SCallee Tryz.prog 122 := ⟨_, Tryz.func122, by kernel_rfl, by kernel_rfl⟩
instance : SCallee Tryz.prog 123 := ⟨_, Tryz.func123, by kernel_rfl, by kernel_rfl⟩
instance : SCallee Tryz.prog 124 := ⟨_, Tryz.func124, by kernel_rfl, by kernel_rfl⟩
instance : SCallee Tryz.prog 125 := ⟨_, Tryz.func125, by kernel_rfl, by kernel_rfl⟩
instance : SCallee Tryz.prog 126 := ⟨_, Tryz.func126, by kernel_rfl, by kernel_rfl⟩
instance : SCallee Tryz.prog 127 := ⟨_, Tryz.func127, by kernel_rfl, by kernel_rfl⟩
instance : SCallee Tryz.prog 128 := ⟨_, Tryz.func128, by kernel_rfl, by kernel_rfl⟩
instance : SCallee Tryz.prog 129 := ⟨_, Tryz.func129, by kernel_rfl, by kernel_rfl⟩
instance : SCallee Tryz.prog 130 := ⟨_, Tryz.func130, by kernel_rfl, by kernel_rfl⟩
instance : SCallee Tryz.prog 131 := ⟨_, Tryz.func131, by kernel_rfl, by kernel_rfl⟩
instance : SCallee Tryz.prog 132 := ⟨_, Tryz.func132, by kernel_rfl, by kernel_rfl⟩
instance : SCallee Tryz.prog 133 := ⟨_, Tryz.func133, by kernel_rfl, by kernel_rfl⟩
instance : SCallee Tryz.prog 134 := ⟨_, Tryz.func134, by kernel_rfl, by kernel_rfl⟩
instance : SCallee Tryz.prog 135 := ⟨_, Tryz.func135, by kernel_rfl, by kernel_rfl⟩
instance : SCallee Tryz.prog 136 := ⟨_, Tryz.func136, by kernel_rfl, by kernel_rfl⟩
instance : SCallee Tryz.prog 137 := ⟨_, Tryz.func137, by kernel_rfl, by kernel_rfl⟩
instance : SCallee Tryz.prog 138 := ⟨_, Tryz.func138, by kernel_rfl, by kernel_rfl⟩
instance : SCallee Tryz.prog 139 := ⟨_, Tryz.func139, by kernel_rfl, by kernel_rfl⟩
instance : SCallee Tryz.prog 140 := ⟨_, Tryz.func140, by kernel_rfl, by kernel_rfl⟩
instance : SCallee Tryz.prog 141 := ⟨_, Tryz.func141, by kernel_rfl, by kernel_rfl⟩
instance : SCallee Tryz.prog 142 := ⟨_, Tryz.func142, by kernel_rfl, by kernel_rfl⟩
instance : SCallee Tryz.prog 143 := ⟨_, Tryz.func143, by kernel_rfl, by kernel_rfl⟩
instance : SCallee Tryz.prog 144 := ⟨_, Tryz.func144, by kernel_rfl, by kernel_rfl⟩
instance : SCallee Tryz.prog 145 := ⟨_, Tryz.func145, by kernel_rfl, by kernel_rfl⟩
instance : SCallee Tryz.prog 146 := ⟨_, Tryz.func146, by kernel_rfl, by kernel_rfl⟩
instance : SCallee Tryz.prog 147 := ⟨_, Tryz.func147, by kernel_rfl, by kernel_rfl⟩
instance : SCallee Tryz.prog 148 := ⟨_, Tryz.func148, by kernel_rfl, by kernel_rfl⟩
instance : SCallee Tryz.prog 149 := ⟨_, Tryz.func149, by kernel_rfl, by kernel_rfl⟩
instance : SCallee Tryz.prog 150 := ⟨_, Tryz.func150, by kernel_rfl, by kernel_rfl⟩
instance : SCallee Tryz.prog 151 := ⟨_, Tryz.func151, by kernel_rfl, by kernel_rfl⟩
instance : SCallee Tryz.prog 152 := ⟨_, Tryz.func152, by kernel_rfl, by kernel_rfl⟩
instance : SCallee Tryz.prog 153 := ⟨_, Tryz.func153, by kernel_rfl, by kernel_rfl⟩
instance : SCallee Tryz.prog 155 := ⟨_, Tryz.func155, by kernel_rfl, by kernel_rfl⟩
instance : SCallee Tryz.prog 156 := ⟨_, Tryz.func156, by kernel_rfl, by kernel_rfl⟩
instance : SCallee Tryz.prog 157 := ⟨_, Tryz.func157, by kernel_rfl, by kernel_rfl⟩
instance : SCallee Tryz.prog 158 := ⟨_, Tryz.func158, by kernel_rfl, by kernel_rfl⟩
instance : SCallee Tryz.prog 159 := ⟨_, Tryz.func159, by kernel_rfl, by kernel_rfl⟩
instance : SCallee Tryz.prog 160 := ⟨_, Tryz.func160, by kernel_rfl, by kernel_rfl⟩
instance : SCallee Tryz.prog 161 := ⟨_, Tryz.func161, by kernel_rfl, by kernel_rfl⟩
instance : SCallee Tryz.prog 162 := ⟨_, Tryz.func162, by kernel_rfl, by kernel_rfl⟩
instance : SCallee Tryz.prog 163 := ⟨_, Tryz.func163, by kernel_rfl, by kernel_rfl⟩
instance : SCallee Tryz.prog 164 := ⟨_, Tryz.func164, by kernel_rfl, by kernel_rfl⟩
instance : SCallee Tryz.prog 165 := ⟨_, Tryz.func165, by kernel_rfl, by kernel_rfl⟩
instance : SCallee Tryz.prog 166 := ⟨_, Tryz.func166, by kernel_rfl, by kernel_rfl⟩
instance : SCallee Tryz.prog 167 := ⟨_, Tryz.func167, by kernel_rfl, by kernel_rfl⟩
instance : SCallee Tryz.prog 168 := ⟨_, Tryz.func168, by kernel_rfl, by kernel_rfl⟩
instance : SCallee Tryz.prog 169 := ⟨_, Tryz.func169, by kernel_rfl, by kernel_rfl⟩
instance : SCallee Tryz.prog 170 := ⟨_, Tryz.func170, by kernel_rfl, by kernel_rfl⟩
instance : SCallee Tryz.prog 171 := ⟨_, Tryz.func171, by kernel_rfl, by kernel_rfl⟩
instance : SCallee Tryz.prog 172 := ⟨_, Tryz.func172, by kernel_rfl, by kernel_rfl⟩
instance : SCallee Tryz.prog 173 := ⟨_, Tryz.func173, by kernel_rfl, by kernel_rfl⟩
instance : SCallee Tryz.prog 174 := ⟨_, Tryz.func174, by kernel_rfl, by kernel_rfl⟩
instance : SCallee Tryz.prog 175 := ⟨_, Tryz.func175, by kernel_rfl, by kernel_rfl⟩
instance : SCallee Tryz.prog 176 := ⟨_, Tryz.func176, by kernel_rfl, by kernel_rfl⟩
instance : SCallee Tryz.prog 177 := ⟨_, Tryz.func177, by kernel_rfl, by kernel_rfl⟩
instance : SCallee Tryz.prog 178 := ⟨_, Tryz.func178, by kernel_rfl, by kernel_rfl⟩
instance : SCallee Tryz.prog 179 := ⟨_, Tryz.func179, by kernel_rfl, by kernel_rfl⟩
instance : SCallee Tryz.prog 180 := ⟨_, Tryz.func180, by kernel_rfl, by kernel_rfl⟩
instance : SCallee Tryz.prog 181 := ⟨_, Tryz.func181, by kernel_rfl, by kernel_rfl⟩
instance : SCallee Tryz.prog 182 := ⟨_, Tryz.func182, by kernel_rfl, by kernel_rfl⟩
instance : SCallee Tryz.prog 183 := ⟨_, Tryz.func183, by kernel_rfl, by kernel_rfl⟩
instance : SCallee Tryz.prog 184 := ⟨_, Tryz.func184, by kernel_rfl, by kernel_rfl⟩
instance : SCallee Tryz.prog 185 := ⟨_, Tryz.func185, by kernel_rfl, by kernel_rfl⟩
instance : SCallee Tryz.prog 186 := ⟨_, Tryz.func186, by kernel_rfl, by kernel_rfl⟩
instance : SCallee Tryz.prog 187 := ⟨_, Tryz.func187, by kernel_rfl, by kernel_rfl⟩
instance : SCallee Tryz.prog 188 := ⟨_, Tryz.func188, by kernel_rfl, by kernel_rfl⟩
instance : SCallee Tryz.prog 189 := ⟨_, Tryz.func189, by kernel_rfl, by kernel_rfl⟩
instance : SCallee Tryz.prog 190 := ⟨_, Tryz.func190, by kernel_rfl, by kernel_rfl⟩
instance : SCallee Tryz.prog 191 := ⟨_, Tryz.func191, by kernel_rfl, by kernel_rfl⟩
instance : SCallee Tryz.prog 192 := ⟨_, Tryz.func192, by kernel_rfl, by kernel_rfl⟩
instance : SCallee Tryz.prog 193 := ⟨_, Tryz.func193, by kernel_rfl, by kernel_rfl⟩
instance : SCallee Tryz.prog 194 := ⟨_, Tryz.func194, by kernel_rfl, by kernel_rfl⟩
instance : SCallee Tryz.prog 195 := ⟨_, Tryz.func195, by kernel_rfl, by kernel_rfl⟩
instance : SCallee Tryz.prog 196 := ⟨_, Tryz.func196, by kernel_rfl, by kernel_rfl⟩
instance : SCallee Tryz.prog 197 := ⟨_, Tryz.func197, by kernel_rfl, by kernel_rfl⟩
instance : SCallee Tryz.prog 198 := ⟨_, Tryz.func198, by kernel_rfl, by kernel_rfl⟩
instance : SCallee Tryz.prog 199 := ⟨_, Tryz.func199, by kernel_rfl, by kernel_rfl⟩
instance : SCallee Tryz.prog 200 := ⟨_, Tryz.func200, by kernel_rfl, by kernel_rfl⟩
instance : SCallee Tryz.prog 201 := ⟨_, Tryz.func201, by kernel_rfl, by kernel_rfl⟩
instance : SCallee Tryz.prog 202 := ⟨_, Tryz.func202, by kernel_rfl, by kernel_rfl⟩
instance : SCallee Tryz.prog 203 := ⟨_, Tryz.func203, by kernel_rfl, by kernel_rfl⟩
instance : SCallee Tryz.prog 204 := ⟨_, Tryz.func204, by kernel_rfl, by kernel_rfl⟩
instance : SCallee Tryz.prog 205 := ⟨_, Tryz.func205, by kernel_rfl, by kernel_rfl⟩
instance : SCallee Tryz.prog 206 := ⟨_, Tryz.func206, by kernel_rfl, by kernel_rfl⟩
instance : SCallee Tryz.prog 207 := ⟨_, Tryz.func207, by kernel_rfl, by kernel_rfl⟩
instance : SCallee Tryz.prog 208 := ⟨_, Tryz.func208, by kernel_rfl, by kernel_rfl⟩
instance : SCallee Tryz.prog 209 := ⟨_, Tryz.func209, by kernel_rfl, by kernel_rfl⟩
instance : SCallee Tryz.prog 210 := ⟨_, Tryz.func210, by kernel_rfl, by kernel_rfl⟩
instance : SCallee Tryz.prog 211 := ⟨_, Tryz.func211, by kernel_rfl, by kernel_rfl⟩
instance : SCallee Tryz.prog 212 := ⟨_, Tryz.func212, by kernel_rfl, by kernel_rfl⟩
instance : SCallee Tryz.prog 213 := ⟨_, Tryz.func213, by kernel_rfl, by kernel_rfl⟩
instance : SCallee Tryz.prog 214 := ⟨_, Tryz.func214, by kernel_rfl, by kernel_rfl⟩
instance : SCallee Tryz.prog 215 := ⟨_, Tryz.func215, by kernel_rfl, by kernel_rfl⟩
instance : SCallee Tryz.prog 216 := ⟨_, Tryz.func216, by kernel_rfl, by kernel_rfl⟩
instance : SCallee Tryz.prog 217 := ⟨_, Tryz.func217, by kernel_rfl, by kernel_rfl⟩
instance : SCallee Tryz.prog 218 := ⟨_, Tryz.func218, by kernel_rfl, by kernel_rfl⟩
instance : SCallee Tryz.prog 219 := ⟨_, Tryz.func219, by kernel_rfl, by kernel_rfl⟩
instance : SCallee Tryz.prog 220 := ⟨_, Tryz.func220, by kernel_rfl, by kernel_rfl⟩
instance : SCallee Tryz.prog 221 := ⟨_, Tryz.func221, by kernel_rfl, by kernel_rfl⟩
instance : SCallee Tryz.prog 222 := ⟨_, Tryz.func222, by kernel_rfl, by kernel_rfl⟩
instance : SCallee Tryz.prog 223 := ⟨_, Tryz.func223, by kernel_rfl, by kernel_rfl⟩
instance : SCallee Tryz.prog 224 := ⟨_, Tryz.func224, by kernel_rfl, by kernel_rfl⟩
instance : SCallee Tryz.prog 225 := ⟨_, Tryz.func225, by kernel_rfl, by kernel_rfl⟩
instance : SCallee Tryz.prog 226 := ⟨_, Tryz.func226, by kernel_rfl, by kernel_rfl⟩
instance : SCallee Tryz.prog 227 := ⟨_, Tryz.func227, by kernel_rfl, by kernel_rfl⟩
instance : SCallee Tryz.prog 228 := ⟨_, Tryz.func228, by kernel_rfl, by kernel_rfl⟩
instance : SCallee Tryz.prog 229 := ⟨_, Tryz.func229, by kernel_rfl, by kernel_rfl⟩
instance : SCallee Tryz.prog 230 := ⟨_, Tryz.func230, by kernel_rfl, by kernel_rfl⟩
instance : SCallee Tryz.prog 231 := ⟨_, Tryz.func231, by kernel_rfl, by kernel_rfl⟩
instance : SCallee Tryz.prog 232 := ⟨_, Tryz.func232, by kernel_rfl, by kernel_rfl⟩
instance : SCallee Tryz.prog 233 := ⟨_, Tryz.func233, by kernel_rfl, by kernel_rfl⟩
instance : SCallee Tryz.prog 234 := ⟨_, Tryz.func234, by kernel_rfl, by kernel_rfl⟩
instance : SCallee Tryz.prog 235 := ⟨_, Tryz.func235, by kernel_rfl, by kernel_rfl⟩
instance : SCallee Tryz.prog 236 := ⟨_, Tryz.func236, by kernel_rfl, by kernel_rfl⟩
end Go.Proofs.YtfmjeakcfmmkfaaGreat
