/-
  No cell of these rows narrows 'for every input' (looked for: loops, veiled, ifaces, maps, wideKeys, modest, calm, conditions, laid).
  DERIVED. THE GIVEN ROWS OF THIS SEAT. 17 by the template 'for every input the law returns true; each argument reads behind the call as it read before'; 0 by the template 'total and deterministic' (their statements: YtpalngamejeneaaTotals.lean).
  GIVEN WITH THE SEED: the statements are not yours to turn. If you find one false, say at which input.
  Laid BY PROGRAM, IN A SANDBOX (cutbox-rows.mjs): the forced cells as the released guide's own fill.sh prints them over the translation f4b78051372a4281… (all of the seat's roots in one cut). By AI agents, Wed Nov 11 2026. No macro, syntax, notation, axiom, sorry.
-/
import Derived.Test.YtpalngamejeneaaChecked
import GoSem.Claim
import GoSem.ClaimJoined
import GoSem.ClaimMapViews
import Derived.JoinedTies
import Derived.KernelRfl
namespace Go.Proofs.Ytpalngamejeneaa
/- THE CELL 'sum', in the pinned program and in every row, IS THE sha256 OF THE DUMP (.gsa) THAT YtpalngamejeneaaProg.lean LOADS. Nothing in Lean hashes anything: it is a label: what it is worth is what the hold of that sum in a sandbox is worth. -/
noncomputable def Try.pinned : Pinned := { name := "ytpalngamejeneaa", sum := "f4b78051372a4281fb3d6109beb52d612119173115d35bcf7228e46aca7700c1", checked := Try.checked }
namespace Rows
def none {H : Type} : Left H := { results := [], args := [] }

/-- 'laws.FnExactLevelOf': WHATEVER THE INPUT: true; the input reads as it did. -/
def fnExactLevelOfSpec : ChangeSpec := { name := "fnExactLevelOf", fn := fun _ => fun
  | [d1, d2] => { results := [.lit (.bool true)], args := [d1, d2] }
  | _ => none }
def fnExactLevelOfRow : OpenClaim := { program := "ytpalngamejeneaa", sum := "f4b78051372a4281fb3d6109beb52d612119173115d35bcf7228e46aca7700c1", func := "loop.example/g03313/laws.FnExactLevelOf", spec := "fnExactLevelOf", apart := false }
def FnExactLevelOfSaid : Prop := fnExactLevelOfRow.holds Try.pinned (OpenSpec.ofChange fnExactLevelOfSpec)

/-- ITS FALSE NEIGHBOUR: 'it returns false'. Refute it at one input. -/
def fnExactLevelOfWrong : ChangeSpec := { name := "fnExactLevelOf", fn := fun _ => fun
  | [d1, d2] => { results := [.lit (.bool false)], args := [d1, d2] }
  | _ => none }
def FnExactLevelOfWrongFalsely : Prop := fnExactLevelOfRow.holds Try.pinned (OpenSpec.ofChange fnExactLevelOfWrong)

/-- 'laws.FnExactThreshold': WHATEVER THE INPUT: true; the input reads as it did. -/
def fnExactThresholdSpec : ChangeSpec := { name := "fnExactThreshold", fn := fun _ => fun
  | [d1, d2] => { results := [.lit (.bool true)], args := [d1, d2] }
  | _ => none }
def fnExactThresholdRow : OpenClaim := { program := "ytpalngamejeneaa", sum := "f4b78051372a4281fb3d6109beb52d612119173115d35bcf7228e46aca7700c1", func := "loop.example/g03313/laws.FnExactThreshold", spec := "fnExactThreshold", apart := false }
def FnExactThresholdSaid : Prop := fnExactThresholdRow.holds Try.pinned (OpenSpec.ofChange fnExactThresholdSpec)

/-- ITS FALSE NEIGHBOUR: 'it returns false'. Refute it at one input. -/
def fnExactThresholdWrong : ChangeSpec := { name := "fnExactThreshold", fn := fun _ => fun
  | [d1, d2] => { results := [.lit (.bool false)], args := [d1, d2] }
  | _ => none }
def FnExactThresholdWrongFalsely : Prop := fnExactThresholdRow.holds Try.pinned (OpenSpec.ofChange fnExactThresholdWrong)

/-- 'laws.FnExactModeOk': WHATEVER THE INPUT: true; the input reads as it did. -/
def fnExactModeOkSpec : ChangeSpec := { name := "fnExactModeOk", fn := fun _ => fun
  | [d] => { results := [.lit (.bool true)], args := [d] }
  | _ => none }
def fnExactModeOkRow : OpenClaim := { program := "ytpalngamejeneaa", sum := "f4b78051372a4281fb3d6109beb52d612119173115d35bcf7228e46aca7700c1", func := "loop.example/g03313/laws.FnExactModeOk", spec := "fnExactModeOk", apart := false }
def FnExactModeOkSaid : Prop := fnExactModeOkRow.holds Try.pinned (OpenSpec.ofChange fnExactModeOkSpec)

/-- ITS FALSE NEIGHBOUR: 'it returns false'. Refute it at one input. -/
def fnExactModeOkWrong : ChangeSpec := { name := "fnExactModeOk", fn := fun _ => fun
  | [d] => { results := [.lit (.bool false)], args := [d] }
  | _ => none }
def FnExactModeOkWrongFalsely : Prop := fnExactModeOkRow.holds Try.pinned (OpenSpec.ofChange fnExactModeOkWrong)

/-- 'laws.FnDitherMean': WHATEVER THE INPUT: true; the input reads as it did. -/
def fnDitherMeanSpec : ChangeSpec := { name := "fnDitherMean", fn := fun _ => fun
  | [d] => { results := [.lit (.bool true)], args := [d] }
  | _ => none }
def fnDitherMeanRow : OpenClaim := { program := "ytpalngamejeneaa", sum := "f4b78051372a4281fb3d6109beb52d612119173115d35bcf7228e46aca7700c1", func := "loop.example/g03313/laws.FnDitherMean", spec := "fnDitherMean", apart := false }
def FnDitherMeanSaid : Prop := fnDitherMeanRow.holds Try.pinned (OpenSpec.ofChange fnDitherMeanSpec)

/-- ITS FALSE NEIGHBOUR: 'it returns false'. Refute it at one input. -/
def fnDitherMeanWrong : ChangeSpec := { name := "fnDitherMean", fn := fun _ => fun
  | [d] => { results := [.lit (.bool false)], args := [d] }
  | _ => none }
def FnDitherMeanWrongFalsely : Prop := fnDitherMeanRow.holds Try.pinned (OpenSpec.ofChange fnDitherMeanWrong)

/-- 'laws.FnExactWordCount': WHATEVER THE INPUT: true; the input reads as it did. -/
def fnExactWordCountSpec : ChangeSpec := { name := "fnExactWordCount", fn := fun _ => fun
  | [d1, d2, d3] => { results := [.lit (.bool true)], args := [d1, d2, d3] }
  | _ => none }
def fnExactWordCountRow : OpenClaim := { program := "ytpalngamejeneaa", sum := "f4b78051372a4281fb3d6109beb52d612119173115d35bcf7228e46aca7700c1", func := "loop.example/g03313/laws.FnExactWordCount", spec := "fnExactWordCount", apart := false }
def FnExactWordCountSaid : Prop := fnExactWordCountRow.holds Try.pinned (OpenSpec.ofChange fnExactWordCountSpec)

/-- ITS FALSE NEIGHBOUR: 'it returns false'. Refute it at one input. -/
def fnExactWordCountWrong : ChangeSpec := { name := "fnExactWordCount", fn := fun _ => fun
  | [d1, d2, d3] => { results := [.lit (.bool false)], args := [d1, d2, d3] }
  | _ => none }
def FnExactWordCountWrongFalsely : Prop := fnExactWordCountRow.holds Try.pinned (OpenSpec.ofChange fnExactWordCountWrong)

/-- 'laws.FnExactBlankLines': WHATEVER THE INPUT: true; the input reads as it did. -/
def fnExactBlankLinesSpec : ChangeSpec := { name := "fnExactBlankLines", fn := fun _ => fun
  | [d] => { results := [.lit (.bool true)], args := [d] }
  | _ => none }
def fnExactBlankLinesRow : OpenClaim := { program := "ytpalngamejeneaa", sum := "f4b78051372a4281fb3d6109beb52d612119173115d35bcf7228e46aca7700c1", func := "loop.example/g03313/laws.FnExactBlankLines", spec := "fnExactBlankLines", apart := false }
def FnExactBlankLinesSaid : Prop := fnExactBlankLinesRow.holds Try.pinned (OpenSpec.ofChange fnExactBlankLinesSpec)

/-- ITS FALSE NEIGHBOUR: 'it returns false'. Refute it at one input. -/
def fnExactBlankLinesWrong : ChangeSpec := { name := "fnExactBlankLines", fn := fun _ => fun
  | [d] => { results := [.lit (.bool false)], args := [d] }
  | _ => none }
def FnExactBlankLinesWrongFalsely : Prop := fnExactBlankLinesRow.holds Try.pinned (OpenSpec.ofChange fnExactBlankLinesWrong)

/-- 'laws.FnExactLineTotal': WHATEVER THE INPUT: true; the input reads as it did. -/
def fnExactLineTotalSpec : ChangeSpec := { name := "fnExactLineTotal", fn := fun _ => fun
  | [d] => { results := [.lit (.bool true)], args := [d] }
  | _ => none }
def fnExactLineTotalRow : OpenClaim := { program := "ytpalngamejeneaa", sum := "f4b78051372a4281fb3d6109beb52d612119173115d35bcf7228e46aca7700c1", func := "loop.example/g03313/laws.FnExactLineTotal", spec := "fnExactLineTotal", apart := false }
def FnExactLineTotalSaid : Prop := fnExactLineTotalRow.holds Try.pinned (OpenSpec.ofChange fnExactLineTotalSpec)

/-- ITS FALSE NEIGHBOUR: 'it returns false'. Refute it at one input. -/
def fnExactLineTotalWrong : ChangeSpec := { name := "fnExactLineTotal", fn := fun _ => fun
  | [d] => { results := [.lit (.bool false)], args := [d] }
  | _ => none }
def FnExactLineTotalWrongFalsely : Prop := fnExactLineTotalRow.holds Try.pinned (OpenSpec.ofChange fnExactLineTotalWrong)

/-- 'laws.FnExactDitherLevel': WHATEVER THE INPUT: true; the input reads as it did. -/
def fnExactDitherLevelSpec : ChangeSpec := { name := "fnExactDitherLevel", fn := fun _ => fun
  | [d1, d2, d3] => { results := [.lit (.bool true)], args := [d1, d2, d3] }
  | _ => none }
def fnExactDitherLevelRow : OpenClaim := { program := "ytpalngamejeneaa", sum := "f4b78051372a4281fb3d6109beb52d612119173115d35bcf7228e46aca7700c1", func := "loop.example/g03313/laws.FnExactDitherLevel", spec := "fnExactDitherLevel", apart := false }
def FnExactDitherLevelSaid : Prop := fnExactDitherLevelRow.holds Try.pinned (OpenSpec.ofChange fnExactDitherLevelSpec)

/-- ITS FALSE NEIGHBOUR: 'it returns false'. Refute it at one input. -/
def fnExactDitherLevelWrong : ChangeSpec := { name := "fnExactDitherLevel", fn := fun _ => fun
  | [d1, d2, d3] => { results := [.lit (.bool false)], args := [d1, d2, d3] }
  | _ => none }
def FnExactDitherLevelWrongFalsely : Prop := fnExactDitherLevelRow.holds Try.pinned (OpenSpec.ofChange fnExactDitherLevelWrong)

/-- 'laws.FnExactPictureOk': WHATEVER THE INPUT: true; the input reads as it did. -/
def fnExactPictureOkSpec : ChangeSpec := { name := "fnExactPictureOk", fn := fun _ => fun
  | [d1, d2, d3] => { results := [.lit (.bool true)], args := [d1, d2, d3] }
  | _ => none }
def fnExactPictureOkRow : OpenClaim := { program := "ytpalngamejeneaa", sum := "f4b78051372a4281fb3d6109beb52d612119173115d35bcf7228e46aca7700c1", func := "loop.example/g03313/laws.FnExactPictureOk", spec := "fnExactPictureOk", apart := false }
def FnExactPictureOkSaid : Prop := fnExactPictureOkRow.holds Try.pinned (OpenSpec.ofChange fnExactPictureOkSpec)

/-- ITS FALSE NEIGHBOUR: 'it returns false'. Refute it at one input. -/
def fnExactPictureOkWrong : ChangeSpec := { name := "fnExactPictureOk", fn := fun _ => fun
  | [d1, d2, d3] => { results := [.lit (.bool false)], args := [d1, d2, d3] }
  | _ => none }
def FnExactPictureOkWrongFalsely : Prop := fnExactPictureOkRow.holds Try.pinned (OpenSpec.ofChange fnExactPictureOkWrong)

/-- 'laws.FnExactWordPlace': WHATEVER THE INPUT: true; the input reads as it did. -/
def fnExactWordPlaceSpec : ChangeSpec := { name := "fnExactWordPlace", fn := fun _ => fun
  | [d1, d2, d3, d4, d5] => { results := [.lit (.bool true)], args := [d1, d2, d3, d4, d5] }
  | _ => none }
def fnExactWordPlaceRow : OpenClaim := { program := "ytpalngamejeneaa", sum := "f4b78051372a4281fb3d6109beb52d612119173115d35bcf7228e46aca7700c1", func := "loop.example/g03313/laws.FnExactWordPlace", spec := "fnExactWordPlace", apart := false }
def FnExactWordPlaceSaid : Prop := fnExactWordPlaceRow.holds Try.pinned (OpenSpec.ofChange fnExactWordPlaceSpec)

/-- ITS FALSE NEIGHBOUR: 'it returns false'. Refute it at one input. -/
def fnExactWordPlaceWrong : ChangeSpec := { name := "fnExactWordPlace", fn := fun _ => fun
  | [d1, d2, d3, d4, d5] => { results := [.lit (.bool false)], args := [d1, d2, d3, d4, d5] }
  | _ => none }
def FnExactWordPlaceWrongFalsely : Prop := fnExactWordPlaceRow.holds Try.pinned (OpenSpec.ofChange fnExactWordPlaceWrong)

/-- 'laws.FnExactFrameTotal': WHATEVER THE INPUT: true; the input reads as it did. -/
def fnExactFrameTotalSpec : ChangeSpec := { name := "fnExactFrameTotal", fn := fun _ => fun
  | [d] => { results := [.lit (.bool true)], args := [d] }
  | _ => none }
def fnExactFrameTotalRow : OpenClaim := { program := "ytpalngamejeneaa", sum := "f4b78051372a4281fb3d6109beb52d612119173115d35bcf7228e46aca7700c1", func := "loop.example/g03313/laws.FnExactFrameTotal", spec := "fnExactFrameTotal", apart := false }
def FnExactFrameTotalSaid : Prop := fnExactFrameTotalRow.holds Try.pinned (OpenSpec.ofChange fnExactFrameTotalSpec)

/-- ITS FALSE NEIGHBOUR: 'it returns false'. Refute it at one input. -/
def fnExactFrameTotalWrong : ChangeSpec := { name := "fnExactFrameTotal", fn := fun _ => fun
  | [d] => { results := [.lit (.bool false)], args := [d] }
  | _ => none }
def FnExactFrameTotalWrongFalsely : Prop := fnExactFrameTotalRow.holds Try.pinned (OpenSpec.ofChange fnExactFrameTotalWrong)

/-- 'laws.FnExactDitherPixel': WHATEVER THE INPUT: true; the input reads as it did. -/
def fnExactDitherPixelSpec : ChangeSpec := { name := "fnExactDitherPixel", fn := fun _ => fun
  | [d1, d2, d3] => { results := [.lit (.bool true)], args := [d1, d2, d3] }
  | _ => none }
def fnExactDitherPixelRow : OpenClaim := { program := "ytpalngamejeneaa", sum := "f4b78051372a4281fb3d6109beb52d612119173115d35bcf7228e46aca7700c1", func := "loop.example/g03313/laws.FnExactDitherPixel", spec := "fnExactDitherPixel", apart := false }
def FnExactDitherPixelSaid : Prop := fnExactDitherPixelRow.holds Try.pinned (OpenSpec.ofChange fnExactDitherPixelSpec)

/-- ITS FALSE NEIGHBOUR: 'it returns false'. Refute it at one input. -/
def fnExactDitherPixelWrong : ChangeSpec := { name := "fnExactDitherPixel", fn := fun _ => fun
  | [d1, d2, d3] => { results := [.lit (.bool false)], args := [d1, d2, d3] }
  | _ => none }
def FnExactDitherPixelWrongFalsely : Prop := fnExactDitherPixelRow.holds Try.pinned (OpenSpec.ofChange fnExactDitherPixelWrong)

/-- 'laws.FnExactRefreshRate': WHATEVER THE INPUT: true; the input reads as it did. -/
def fnExactRefreshRateSpec : ChangeSpec := { name := "fnExactRefreshRate", fn := fun _ => fun
  | [d] => { results := [.lit (.bool true)], args := [d] }
  | _ => none }
def fnExactRefreshRateRow : OpenClaim := { program := "ytpalngamejeneaa", sum := "f4b78051372a4281fb3d6109beb52d612119173115d35bcf7228e46aca7700c1", func := "loop.example/g03313/laws.FnExactRefreshRate", spec := "fnExactRefreshRate", apart := false }
def FnExactRefreshRateSaid : Prop := fnExactRefreshRateRow.holds Try.pinned (OpenSpec.ofChange fnExactRefreshRateSpec)

/-- ITS FALSE NEIGHBOUR: 'it returns false'. Refute it at one input. -/
def fnExactRefreshRateWrong : ChangeSpec := { name := "fnExactRefreshRate", fn := fun _ => fun
  | [d] => { results := [.lit (.bool false)], args := [d] }
  | _ => none }
def FnExactRefreshRateWrongFalsely : Prop := fnExactRefreshRateRow.holds Try.pinned (OpenSpec.ofChange fnExactRefreshRateWrong)

/-- 'laws.FnBeams': WHATEVER THE INPUT: true; the input reads as it did. -/
def fnBeamsSpec : ChangeSpec := { name := "fnBeams", fn := fun _ => fun
  | [d] => { results := [.lit (.bool true)], args := [d] }
  | _ => none }
def fnBeamsRow : OpenClaim := { program := "ytpalngamejeneaa", sum := "f4b78051372a4281fb3d6109beb52d612119173115d35bcf7228e46aca7700c1", func := "loop.example/g03313/laws.FnBeams", spec := "fnBeams", apart := false }
def FnBeamsSaid : Prop := fnBeamsRow.holds Try.pinned (OpenSpec.ofChange fnBeamsSpec)

/-- ITS FALSE NEIGHBOUR: 'it returns false'. Refute it at one input. -/
def fnBeamsWrong : ChangeSpec := { name := "fnBeams", fn := fun _ => fun
  | [d] => { results := [.lit (.bool false)], args := [d] }
  | _ => none }
def FnBeamsWrongFalsely : Prop := fnBeamsRow.holds Try.pinned (OpenSpec.ofChange fnBeamsWrong)

/-- 'laws.FnExactColorOk': WHATEVER THE INPUT: true; the input reads as it did. -/
def fnExactColorOkSpec : ChangeSpec := { name := "fnExactColorOk", fn := fun _ => fun
  | [d] => { results := [.lit (.bool true)], args := [d] }
  | _ => none }
def fnExactColorOkRow : OpenClaim := { program := "ytpalngamejeneaa", sum := "f4b78051372a4281fb3d6109beb52d612119173115d35bcf7228e46aca7700c1", func := "loop.example/g03313/laws.FnExactColorOk", spec := "fnExactColorOk", apart := false }
def FnExactColorOkSaid : Prop := fnExactColorOkRow.holds Try.pinned (OpenSpec.ofChange fnExactColorOkSpec)

/-- ITS FALSE NEIGHBOUR: 'it returns false'. Refute it at one input. -/
def fnExactColorOkWrong : ChangeSpec := { name := "fnExactColorOk", fn := fun _ => fun
  | [d] => { results := [.lit (.bool false)], args := [d] }
  | _ => none }
def FnExactColorOkWrongFalsely : Prop := fnExactColorOkRow.holds Try.pinned (OpenSpec.ofChange fnExactColorOkWrong)

/-- 'laws.FnExactCurveAt': WHATEVER THE INPUT: true; the input reads as it did. -/
def fnExactCurveAtSpec : ChangeSpec := { name := "fnExactCurveAt", fn := fun _ => fun
  | [d1, d2] => { results := [.lit (.bool true)], args := [d1, d2] }
  | _ => none }
def fnExactCurveAtRow : OpenClaim := { program := "ytpalngamejeneaa", sum := "f4b78051372a4281fb3d6109beb52d612119173115d35bcf7228e46aca7700c1", func := "loop.example/g03313/laws.FnExactCurveAt", spec := "fnExactCurveAt", apart := false }
def FnExactCurveAtSaid : Prop := fnExactCurveAtRow.holds Try.pinned (OpenSpec.ofChange fnExactCurveAtSpec)

/-- ITS FALSE NEIGHBOUR: 'it returns false'. Refute it at one input. -/
def fnExactCurveAtWrong : ChangeSpec := { name := "fnExactCurveAt", fn := fun _ => fun
  | [d1, d2] => { results := [.lit (.bool false)], args := [d1, d2] }
  | _ => none }
def FnExactCurveAtWrongFalsely : Prop := fnExactCurveAtRow.holds Try.pinned (OpenSpec.ofChange fnExactCurveAtWrong)

/-- 'laws.FnExactMixChannels': WHATEVER THE INPUT: true; the input reads as it did. -/
def fnExactMixChannelsSpec : ChangeSpec := { name := "fnExactMixChannels", fn := fun _ => fun
  | [d1, d2, d3, d4, d5] => { results := [.lit (.bool true)], args := [d1, d2, d3, d4, d5] }
  | _ => none }
def fnExactMixChannelsRow : OpenClaim := { program := "ytpalngamejeneaa", sum := "f4b78051372a4281fb3d6109beb52d612119173115d35bcf7228e46aca7700c1", func := "loop.example/g03313/laws.FnExactMixChannels", spec := "fnExactMixChannels", apart := false }
def FnExactMixChannelsSaid : Prop := fnExactMixChannelsRow.holds Try.pinned (OpenSpec.ofChange fnExactMixChannelsSpec)

/-- ITS FALSE NEIGHBOUR: 'it returns false'. Refute it at one input. -/
def fnExactMixChannelsWrong : ChangeSpec := { name := "fnExactMixChannels", fn := fun _ => fun
  | [d1, d2, d3, d4, d5] => { results := [.lit (.bool false)], args := [d1, d2, d3, d4, d5] }
  | _ => none }
def FnExactMixChannelsWrongFalsely : Prop := fnExactMixChannelsRow.holds Try.pinned (OpenSpec.ofChange fnExactMixChannelsWrong)

/- THE SECOND FORM. 'bulk': how many values and letters a reading holds, each counted each time it is reached (what is shared counts as often as it is met; a slice's spare places count too). A statement '..UptoSaid' is the law's where the arguments, and the package variables that the reading takes, are together of bulk at most 1048576: NARROWER than '..Said'. Prove '..Said' where nothing that the law and all that it calls make is longer than what came in: it says more and counts as full. Else prove '..UptoSaid'. A law counts once. -/
mutual
def uptoBulk {H : Type} : DataW H → Nat
  | .lit (.string bytes) => bytes.length + 1
  | .lit _ => 1
  | .nil => 1
  | .ptr d => uptoBulk d + 1
  | .slice elems spare => uptoBulkAll elems + uptoBulkAll spare + 1
  | .agg parts => uptoBulkAll parts + 1
  | .iface _ d => uptoBulk d + 1
  | .map entries => uptoBulkEntries entries + 1
  | .held _ => 1
def uptoBulkAll {H : Type} : List (DataW H) → Nat
  | [] => 0
  | d :: r => uptoBulk d + uptoBulkAll r
def uptoBulkEntries {H : Type} : List (Lit × DataW H) → Nat
  | [] => 0
  | x :: r => uptoBulkEntry x + uptoBulkEntries r
def uptoBulkEntry {H : Type} : Lit × DataW H → Nat
  | (.string bytes, d) => bytes.length + uptoBulk d + 1
  | (_, d) => uptoBulk d + 1
 end
def uptoSmall : (H : Type) → List (DataW H) → Bool := fun _ ds => decide (uptoBulkAll ds ≤ 1048576)
def OpenSpec.upto (s : _root_.Go.ChangeSpec) : _root_.Go.OpenSpec := { _root_.Go.OpenSpec.ofChange s with cond := some uptoSmall }

/-- 'laws.FnExactLevelOf', WHERE WHAT IT READS IS OF BULK AT MOST 1048576: true; the input reads as it did. -/
def fnExactLevelOfUptoRow : OpenClaim := { program := "ytpalngamejeneaa", sum := "f4b78051372a4281fb3d6109beb52d612119173115d35bcf7228e46aca7700c1", func := "loop.example/g03313/laws.FnExactLevelOf", spec := "fnExactLevelOf", apart := false, narrowed := true }
def FnExactLevelOfUptoSaid : Prop := fnExactLevelOfUptoRow.holds Try.pinned (OpenSpec.upto fnExactLevelOfSpec)

/-- 'laws.FnExactThreshold', WHERE WHAT IT READS IS OF BULK AT MOST 1048576: true; the input reads as it did. -/
def fnExactThresholdUptoRow : OpenClaim := { program := "ytpalngamejeneaa", sum := "f4b78051372a4281fb3d6109beb52d612119173115d35bcf7228e46aca7700c1", func := "loop.example/g03313/laws.FnExactThreshold", spec := "fnExactThreshold", apart := false, narrowed := true }
def FnExactThresholdUptoSaid : Prop := fnExactThresholdUptoRow.holds Try.pinned (OpenSpec.upto fnExactThresholdSpec)

/-- 'laws.FnExactModeOk', WHERE WHAT IT READS IS OF BULK AT MOST 1048576: true; the input reads as it did. -/
def fnExactModeOkUptoRow : OpenClaim := { program := "ytpalngamejeneaa", sum := "f4b78051372a4281fb3d6109beb52d612119173115d35bcf7228e46aca7700c1", func := "loop.example/g03313/laws.FnExactModeOk", spec := "fnExactModeOk", apart := false, narrowed := true }
def FnExactModeOkUptoSaid : Prop := fnExactModeOkUptoRow.holds Try.pinned (OpenSpec.upto fnExactModeOkSpec)

/-- 'laws.FnDitherMean', WHERE WHAT IT READS IS OF BULK AT MOST 1048576: true; the input reads as it did. -/
def fnDitherMeanUptoRow : OpenClaim := { program := "ytpalngamejeneaa", sum := "f4b78051372a4281fb3d6109beb52d612119173115d35bcf7228e46aca7700c1", func := "loop.example/g03313/laws.FnDitherMean", spec := "fnDitherMean", apart := false, narrowed := true }
def FnDitherMeanUptoSaid : Prop := fnDitherMeanUptoRow.holds Try.pinned (OpenSpec.upto fnDitherMeanSpec)

/-- 'laws.FnExactWordCount', WHERE WHAT IT READS IS OF BULK AT MOST 1048576: true; the input reads as it did. -/
def fnExactWordCountUptoRow : OpenClaim := { program := "ytpalngamejeneaa", sum := "f4b78051372a4281fb3d6109beb52d612119173115d35bcf7228e46aca7700c1", func := "loop.example/g03313/laws.FnExactWordCount", spec := "fnExactWordCount", apart := false, narrowed := true }
def FnExactWordCountUptoSaid : Prop := fnExactWordCountUptoRow.holds Try.pinned (OpenSpec.upto fnExactWordCountSpec)

/-- 'laws.FnExactBlankLines', WHERE WHAT IT READS IS OF BULK AT MOST 1048576: true; the input reads as it did. -/
def fnExactBlankLinesUptoRow : OpenClaim := { program := "ytpalngamejeneaa", sum := "f4b78051372a4281fb3d6109beb52d612119173115d35bcf7228e46aca7700c1", func := "loop.example/g03313/laws.FnExactBlankLines", spec := "fnExactBlankLines", apart := false, narrowed := true }
def FnExactBlankLinesUptoSaid : Prop := fnExactBlankLinesUptoRow.holds Try.pinned (OpenSpec.upto fnExactBlankLinesSpec)

/-- 'laws.FnExactLineTotal', WHERE WHAT IT READS IS OF BULK AT MOST 1048576: true; the input reads as it did. -/
def fnExactLineTotalUptoRow : OpenClaim := { program := "ytpalngamejeneaa", sum := "f4b78051372a4281fb3d6109beb52d612119173115d35bcf7228e46aca7700c1", func := "loop.example/g03313/laws.FnExactLineTotal", spec := "fnExactLineTotal", apart := false, narrowed := true }
def FnExactLineTotalUptoSaid : Prop := fnExactLineTotalUptoRow.holds Try.pinned (OpenSpec.upto fnExactLineTotalSpec)

/-- 'laws.FnExactDitherLevel', WHERE WHAT IT READS IS OF BULK AT MOST 1048576: true; the input reads as it did. -/
def fnExactDitherLevelUptoRow : OpenClaim := { program := "ytpalngamejeneaa", sum := "f4b78051372a4281fb3d6109beb52d612119173115d35bcf7228e46aca7700c1", func := "loop.example/g03313/laws.FnExactDitherLevel", spec := "fnExactDitherLevel", apart := false, narrowed := true }
def FnExactDitherLevelUptoSaid : Prop := fnExactDitherLevelUptoRow.holds Try.pinned (OpenSpec.upto fnExactDitherLevelSpec)

/-- 'laws.FnExactPictureOk', WHERE WHAT IT READS IS OF BULK AT MOST 1048576: true; the input reads as it did. -/
def fnExactPictureOkUptoRow : OpenClaim := { program := "ytpalngamejeneaa", sum := "f4b78051372a4281fb3d6109beb52d612119173115d35bcf7228e46aca7700c1", func := "loop.example/g03313/laws.FnExactPictureOk", spec := "fnExactPictureOk", apart := false, narrowed := true }
def FnExactPictureOkUptoSaid : Prop := fnExactPictureOkUptoRow.holds Try.pinned (OpenSpec.upto fnExactPictureOkSpec)

/-- 'laws.FnExactWordPlace', WHERE WHAT IT READS IS OF BULK AT MOST 1048576: true; the input reads as it did. -/
def fnExactWordPlaceUptoRow : OpenClaim := { program := "ytpalngamejeneaa", sum := "f4b78051372a4281fb3d6109beb52d612119173115d35bcf7228e46aca7700c1", func := "loop.example/g03313/laws.FnExactWordPlace", spec := "fnExactWordPlace", apart := false, narrowed := true }
def FnExactWordPlaceUptoSaid : Prop := fnExactWordPlaceUptoRow.holds Try.pinned (OpenSpec.upto fnExactWordPlaceSpec)

/-- 'laws.FnExactFrameTotal', WHERE WHAT IT READS IS OF BULK AT MOST 1048576: true; the input reads as it did. -/
def fnExactFrameTotalUptoRow : OpenClaim := { program := "ytpalngamejeneaa", sum := "f4b78051372a4281fb3d6109beb52d612119173115d35bcf7228e46aca7700c1", func := "loop.example/g03313/laws.FnExactFrameTotal", spec := "fnExactFrameTotal", apart := false, narrowed := true }
def FnExactFrameTotalUptoSaid : Prop := fnExactFrameTotalUptoRow.holds Try.pinned (OpenSpec.upto fnExactFrameTotalSpec)

/-- 'laws.FnExactDitherPixel', WHERE WHAT IT READS IS OF BULK AT MOST 1048576: true; the input reads as it did. -/
def fnExactDitherPixelUptoRow : OpenClaim := { program := "ytpalngamejeneaa", sum := "f4b78051372a4281fb3d6109beb52d612119173115d35bcf7228e46aca7700c1", func := "loop.example/g03313/laws.FnExactDitherPixel", spec := "fnExactDitherPixel", apart := false, narrowed := true }
def FnExactDitherPixelUptoSaid : Prop := fnExactDitherPixelUptoRow.holds Try.pinned (OpenSpec.upto fnExactDitherPixelSpec)

/-- 'laws.FnExactRefreshRate', WHERE WHAT IT READS IS OF BULK AT MOST 1048576: true; the input reads as it did. -/
def fnExactRefreshRateUptoRow : OpenClaim := { program := "ytpalngamejeneaa", sum := "f4b78051372a4281fb3d6109beb52d612119173115d35bcf7228e46aca7700c1", func := "loop.example/g03313/laws.FnExactRefreshRate", spec := "fnExactRefreshRate", apart := false, narrowed := true }
def FnExactRefreshRateUptoSaid : Prop := fnExactRefreshRateUptoRow.holds Try.pinned (OpenSpec.upto fnExactRefreshRateSpec)

/-- 'laws.FnBeams', WHERE WHAT IT READS IS OF BULK AT MOST 1048576: true; the input reads as it did. -/
def fnBeamsUptoRow : OpenClaim := { program := "ytpalngamejeneaa", sum := "f4b78051372a4281fb3d6109beb52d612119173115d35bcf7228e46aca7700c1", func := "loop.example/g03313/laws.FnBeams", spec := "fnBeams", apart := false, narrowed := true }
def FnBeamsUptoSaid : Prop := fnBeamsUptoRow.holds Try.pinned (OpenSpec.upto fnBeamsSpec)

/-- 'laws.FnExactColorOk', WHERE WHAT IT READS IS OF BULK AT MOST 1048576: true; the input reads as it did. -/
def fnExactColorOkUptoRow : OpenClaim := { program := "ytpalngamejeneaa", sum := "f4b78051372a4281fb3d6109beb52d612119173115d35bcf7228e46aca7700c1", func := "loop.example/g03313/laws.FnExactColorOk", spec := "fnExactColorOk", apart := false, narrowed := true }
def FnExactColorOkUptoSaid : Prop := fnExactColorOkUptoRow.holds Try.pinned (OpenSpec.upto fnExactColorOkSpec)

/-- 'laws.FnExactCurveAt', WHERE WHAT IT READS IS OF BULK AT MOST 1048576: true; the input reads as it did. -/
def fnExactCurveAtUptoRow : OpenClaim := { program := "ytpalngamejeneaa", sum := "f4b78051372a4281fb3d6109beb52d612119173115d35bcf7228e46aca7700c1", func := "loop.example/g03313/laws.FnExactCurveAt", spec := "fnExactCurveAt", apart := false, narrowed := true }
def FnExactCurveAtUptoSaid : Prop := fnExactCurveAtUptoRow.holds Try.pinned (OpenSpec.upto fnExactCurveAtSpec)

/-- 'laws.FnExactMixChannels', WHERE WHAT IT READS IS OF BULK AT MOST 1048576: true; the input reads as it did. -/
def fnExactMixChannelsUptoRow : OpenClaim := { program := "ytpalngamejeneaa", sum := "f4b78051372a4281fb3d6109beb52d612119173115d35bcf7228e46aca7700c1", func := "loop.example/g03313/laws.FnExactMixChannels", spec := "fnExactMixChannels", apart := false, narrowed := true }
def FnExactMixChannelsUptoSaid : Prop := fnExactMixChannelsUptoRow.holds Try.pinned (OpenSpec.upto fnExactMixChannelsSpec)

end Rows
end Go.Proofs.Ytpalngamejeneaa
