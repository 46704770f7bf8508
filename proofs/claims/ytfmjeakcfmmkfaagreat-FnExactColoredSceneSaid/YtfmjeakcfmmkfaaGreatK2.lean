/-
  Contracts: modes, layouts, pixels.
-/
import Derived.Test.YtfmjeakcfmmkfaaGreatK1
set_option linter.unusedVariables false
namespace Go.Proofs.YtfmjeakcfmmkfaaGreat
open Go Sx
attribute [local irreducible] Exit.then Exit.inBlock bodyPost
abbrev mval (m : DMode) : Value := .agg #[.int .i64 m.Clock, .int .i64 m.W, .int .i64 m.HFront, .int .i64 m.HSync, .int .i64 m.HBack, .int .i64 m.H, .int .i64 m.VFront, .int .i64 m.VSync, .int .i64 m.VBack]
end Go.Proofs.YtfmjeakcfmmkfaaGreat
