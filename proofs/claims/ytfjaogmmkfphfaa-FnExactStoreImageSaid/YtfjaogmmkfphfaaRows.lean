/-
  No cell of these rows narrows 'for every input' (looked for: loops, veiled, ifaces, maps, wideKeys, modest, calm, conditions, laid).
  DERIVED. THE GIVEN ROWS OF THIS SEAT. 20 by the template 'for every input the law returns true; each argument reads behind the call as it read before'; 0 by the template 'total and deterministic' (their statements: YtfjaogmmkfphfaaTotals.lean).
  GIVEN WITH THE SEED: the statements are not yours to turn. If you find one false, say at which input.
  Laid BY PROGRAM, IN A SANDBOX (cutbox-rows.mjs): the forced cells as the released guide's own fill.sh prints them over the translation 9b0942cee10e8c5f… (all of the seat's roots in one cut). By AI agents, Wed Nov 11 2026. No macro, syntax, notation, axiom, sorry.
-/
import Derived.Test.YtfjaogmmkfphfaaChecked
import GoSem.Claim
import GoSem.ClaimJoined
import GoSem.ClaimMapViews
import Derived.JoinedTies
import Derived.KernelRfl
namespace Go.Proofs.Ytfjaogmmkfphfaa
/- THE CELL 'sum', in the pinned program and in every row, IS THE sha256 OF THE DUMP (.gsa) THAT YtfjaogmmkfphfaaProg.lean LOADS. Nothing in Lean hashes anything: it is a label: what it is worth is what the hold of that sum in a sandbox is worth. -/
noncomputable def Try.pinned : Pinned := { name := "ytfjaogmmkfphfaa", sum := "9b0942cee10e8c5f9697f6dd0805001457750d2cac05e00ad992186e325067f5", checked := Try.checked }
namespace Rows
def none {H : Type} : Left H := { results := [], args := [] }

/-- 'laws.FnBeams': WHATEVER THE INPUT: true; the input reads as it did. -/
def fnBeamsSpec : ChangeSpec := { name := "fnBeams", fn := fun _ => fun
  | [d] => { results := [.lit (.bool true)], args := [d] }
  | _ => none }
def fnBeamsRow : OpenClaim := { program := "ytfjaogmmkfphfaa", sum := "9b0942cee10e8c5f9697f6dd0805001457750d2cac05e00ad992186e325067f5", func := "loop.example/g03313/laws.FnBeams", spec := "fnBeams", apart := false }
def FnBeamsSaid : Prop := fnBeamsRow.holds Try.pinned (OpenSpec.ofChange fnBeamsSpec)

/-- ITS FALSE NEIGHBOUR: 'it returns false'. Refute it at one input. -/
def fnBeamsWrong : ChangeSpec := { name := "fnBeams", fn := fun _ => fun
  | [d] => { results := [.lit (.bool false)], args := [d] }
  | _ => none }
def FnBeamsWrongFalsely : Prop := fnBeamsRow.holds Try.pinned (OpenSpec.ofChange fnBeamsWrong)

/-- 'laws.FnExactColorOk': WHATEVER THE INPUT: true; the input reads as it did. -/
def fnExactColorOkSpec : ChangeSpec := { name := "fnExactColorOk", fn := fun _ => fun
  | [d] => { results := [.lit (.bool true)], args := [d] }
  | _ => none }
def fnExactColorOkRow : OpenClaim := { program := "ytfjaogmmkfphfaa", sum := "9b0942cee10e8c5f9697f6dd0805001457750d2cac05e00ad992186e325067f5", func := "loop.example/g03313/laws.FnExactColorOk", spec := "fnExactColorOk", apart := false }
def FnExactColorOkSaid : Prop := fnExactColorOkRow.holds Try.pinned (OpenSpec.ofChange fnExactColorOkSpec)

/-- ITS FALSE NEIGHBOUR: 'it returns false'. Refute it at one input. -/
def fnExactColorOkWrong : ChangeSpec := { name := "fnExactColorOk", fn := fun _ => fun
  | [d] => { results := [.lit (.bool false)], args := [d] }
  | _ => none }
def FnExactColorOkWrongFalsely : Prop := fnExactColorOkRow.holds Try.pinned (OpenSpec.ofChange fnExactColorOkWrong)

/-- 'laws.FnExactCurveAt': WHATEVER THE INPUT: true; the input reads as it did. -/
def fnExactCurveAtSpec : ChangeSpec := { name := "fnExactCurveAt", fn := fun _ => fun
  | [d1, d2] => { results := [.lit (.bool true)], args := [d1, d2] }
  | _ => none }
def fnExactCurveAtRow : OpenClaim := { program := "ytfjaogmmkfphfaa", sum := "9b0942cee10e8c5f9697f6dd0805001457750d2cac05e00ad992186e325067f5", func := "loop.example/g03313/laws.FnExactCurveAt", spec := "fnExactCurveAt", apart := false }
def FnExactCurveAtSaid : Prop := fnExactCurveAtRow.holds Try.pinned (OpenSpec.ofChange fnExactCurveAtSpec)

/-- ITS FALSE NEIGHBOUR: 'it returns false'. Refute it at one input. -/
def fnExactCurveAtWrong : ChangeSpec := { name := "fnExactCurveAt", fn := fun _ => fun
  | [d1, d2] => { results := [.lit (.bool false)], args := [d1, d2] }
  | _ => none }
def FnExactCurveAtWrongFalsely : Prop := fnExactCurveAtRow.holds Try.pinned (OpenSpec.ofChange fnExactCurveAtWrong)

/-- 'laws.FnExactMixChannels': WHATEVER THE INPUT: true; the input reads as it did. -/
def fnExactMixChannelsSpec : ChangeSpec := { name := "fnExactMixChannels", fn := fun _ => fun
  | [d1, d2, d3, d4, d5] => { results := [.lit (.bool true)], args := [d1, d2, d3, d4, d5] }
  | _ => none }
def fnExactMixChannelsRow : OpenClaim := { program := "ytfjaogmmkfphfaa", sum := "9b0942cee10e8c5f9697f6dd0805001457750d2cac05e00ad992186e325067f5", func := "loop.example/g03313/laws.FnExactMixChannels", spec := "fnExactMixChannels", apart := false }
def FnExactMixChannelsSaid : Prop := fnExactMixChannelsRow.holds Try.pinned (OpenSpec.ofChange fnExactMixChannelsSpec)

/-- ITS FALSE NEIGHBOUR: 'it returns false'. Refute it at one input. -/
def fnExactMixChannelsWrong : ChangeSpec := { name := "fnExactMixChannels", fn := fun _ => fun
  | [d1, d2, d3, d4, d5] => { results := [.lit (.bool false)], args := [d1, d2, d3, d4, d5] }
  | _ => none }
def FnExactMixChannelsWrongFalsely : Prop := fnExactMixChannelsRow.holds Try.pinned (OpenSpec.ofChange fnExactMixChannelsWrong)

/-- 'laws.FnExactSameSurface': WHATEVER THE INPUT: true; the input reads as it did. -/
def fnExactSameSurfaceSpec : ChangeSpec := { name := "fnExactSameSurface", fn := fun _ => fun
  | [d1, d2] => { results := [.lit (.bool true)], args := [d1, d2] }
  | _ => none }
def fnExactSameSurfaceRow : OpenClaim := { program := "ytfjaogmmkfphfaa", sum := "9b0942cee10e8c5f9697f6dd0805001457750d2cac05e00ad992186e325067f5", func := "loop.example/g03313/laws.FnExactSameSurface", spec := "fnExactSameSurface", apart := false }
def FnExactSameSurfaceSaid : Prop := fnExactSameSurfaceRow.holds Try.pinned (OpenSpec.ofChange fnExactSameSurfaceSpec)

/-- ITS FALSE NEIGHBOUR: 'it returns false'. Refute it at one input. -/
def fnExactSameSurfaceWrong : ChangeSpec := { name := "fnExactSameSurface", fn := fun _ => fun
  | [d1, d2] => { results := [.lit (.bool false)], args := [d1, d2] }
  | _ => none }
def FnExactSameSurfaceWrongFalsely : Prop := fnExactSameSurfaceRow.holds Try.pinned (OpenSpec.ofChange fnExactSameSurfaceWrong)

/-- 'laws.FnExactSurfaceOk': WHATEVER THE INPUT: true; the input reads as it did. -/
def fnExactSurfaceOkSpec : ChangeSpec := { name := "fnExactSurfaceOk", fn := fun _ => fun
  | [d] => { results := [.lit (.bool true)], args := [d] }
  | _ => none }
def fnExactSurfaceOkRow : OpenClaim := { program := "ytfjaogmmkfphfaa", sum := "9b0942cee10e8c5f9697f6dd0805001457750d2cac05e00ad992186e325067f5", func := "loop.example/g03313/laws.FnExactSurfaceOk", spec := "fnExactSurfaceOk", apart := false }
def FnExactSurfaceOkSaid : Prop := fnExactSurfaceOkRow.holds Try.pinned (OpenSpec.ofChange fnExactSurfaceOkSpec)

/-- ITS FALSE NEIGHBOUR: 'it returns false'. Refute it at one input. -/
def fnExactSurfaceOkWrong : ChangeSpec := { name := "fnExactSurfaceOk", fn := fun _ => fun
  | [d] => { results := [.lit (.bool false)], args := [d] }
  | _ => none }
def FnExactSurfaceOkWrongFalsely : Prop := fnExactSurfaceOkRow.holds Try.pinned (OpenSpec.ofChange fnExactSurfaceOkWrong)

/-- 'laws.FnColorIdentity': WHATEVER THE INPUT: true; the input reads as it did. -/
def fnColorIdentitySpec : ChangeSpec := { name := "fnColorIdentity", fn := fun _ => fun
  | [d] => { results := [.lit (.bool true)], args := [d] }
  | _ => none }
def fnColorIdentityRow : OpenClaim := { program := "ytfjaogmmkfphfaa", sum := "9b0942cee10e8c5f9697f6dd0805001457750d2cac05e00ad992186e325067f5", func := "loop.example/g03313/laws.FnColorIdentity", spec := "fnColorIdentity", apart := false }
def FnColorIdentitySaid : Prop := fnColorIdentityRow.holds Try.pinned (OpenSpec.ofChange fnColorIdentitySpec)

/-- ITS FALSE NEIGHBOUR: 'it returns false'. Refute it at one input. -/
def fnColorIdentityWrong : ChangeSpec := { name := "fnColorIdentity", fn := fun _ => fun
  | [d] => { results := [.lit (.bool false)], args := [d] }
  | _ => none }
def FnColorIdentityWrongFalsely : Prop := fnColorIdentityRow.holds Try.pinned (OpenSpec.ofChange fnColorIdentityWrong)

/-- 'laws.FnExactColorPixel': WHATEVER THE INPUT: true; the input reads as it did. -/
def fnExactColorPixelSpec : ChangeSpec := { name := "fnExactColorPixel", fn := fun _ => fun
  | [d1, d2] => { results := [.lit (.bool true)], args := [d1, d2] }
  | _ => none }
def fnExactColorPixelRow : OpenClaim := { program := "ytfjaogmmkfphfaa", sum := "9b0942cee10e8c5f9697f6dd0805001457750d2cac05e00ad992186e325067f5", func := "loop.example/g03313/laws.FnExactColorPixel", spec := "fnExactColorPixel", apart := false }
def FnExactColorPixelSaid : Prop := fnExactColorPixelRow.holds Try.pinned (OpenSpec.ofChange fnExactColorPixelSpec)

/-- ITS FALSE NEIGHBOUR: 'it returns false'. Refute it at one input. -/
def fnExactColorPixelWrong : ChangeSpec := { name := "fnExactColorPixel", fn := fun _ => fun
  | [d1, d2] => { results := [.lit (.bool false)], args := [d1, d2] }
  | _ => none }
def FnExactColorPixelWrongFalsely : Prop := fnExactColorPixelRow.holds Try.pinned (OpenSpec.ofChange fnExactColorPixelWrong)

/-- 'laws.FnExactDitherImage': WHATEVER THE INPUT: true; the input reads as it did. -/
def fnExactDitherImageSpec : ChangeSpec := { name := "fnExactDitherImage", fn := fun _ => fun
  | [d] => { results := [.lit (.bool true)], args := [d] }
  | _ => none }
def fnExactDitherImageRow : OpenClaim := { program := "ytfjaogmmkfphfaa", sum := "9b0942cee10e8c5f9697f6dd0805001457750d2cac05e00ad992186e325067f5", func := "loop.example/g03313/laws.FnExactDitherImage", spec := "fnExactDitherImage", unfollowed := true, recurses := true, apart := false }
def FnExactDitherImageSaid : Prop := fnExactDitherImageRow.holds Try.pinned (OpenSpec.ofChange fnExactDitherImageSpec)

/-- ITS FALSE NEIGHBOUR: 'it returns false'. Refute it at one input. -/
def fnExactDitherImageWrong : ChangeSpec := { name := "fnExactDitherImage", fn := fun _ => fun
  | [d] => { results := [.lit (.bool false)], args := [d] }
  | _ => none }
def FnExactDitherImageWrongFalsely : Prop := fnExactDitherImageRow.holds Try.pinned (OpenSpec.ofChange fnExactDitherImageWrong)

/-- 'laws.FnExactSurfaceIndex': WHATEVER THE INPUT: true; the input reads as it did. -/
def fnExactSurfaceIndexSpec : ChangeSpec := { name := "fnExactSurfaceIndex", fn := fun _ => fun
  | [d1, d2] => { results := [.lit (.bool true)], args := [d1, d2] }
  | _ => none }
def fnExactSurfaceIndexRow : OpenClaim := { program := "ytfjaogmmkfphfaa", sum := "9b0942cee10e8c5f9697f6dd0805001457750d2cac05e00ad992186e325067f5", func := "loop.example/g03313/laws.FnExactSurfaceIndex", spec := "fnExactSurfaceIndex", unfollowed := true, recurses := true, apart := false }
def FnExactSurfaceIndexSaid : Prop := fnExactSurfaceIndexRow.holds Try.pinned (OpenSpec.ofChange fnExactSurfaceIndexSpec)

/-- ITS FALSE NEIGHBOUR: 'it returns false'. Refute it at one input. -/
def fnExactSurfaceIndexWrong : ChangeSpec := { name := "fnExactSurfaceIndex", fn := fun _ => fun
  | [d1, d2] => { results := [.lit (.bool false)], args := [d1, d2] }
  | _ => none }
def FnExactSurfaceIndexWrongFalsely : Prop := fnExactSurfaceIndexRow.holds Try.pinned (OpenSpec.ofChange fnExactSurfaceIndexWrong)

/-- 'laws.FnExactStoreImage': WHATEVER THE INPUT: true; the input reads as it did. -/
def fnExactStoreImageSpec : ChangeSpec := { name := "fnExactStoreImage", fn := fun _ => fun
  | [d1, d2] => { results := [.lit (.bool true)], args := [d1, d2] }
  | _ => none }
def fnExactStoreImageRow : OpenClaim := { program := "ytfjaogmmkfphfaa", sum := "9b0942cee10e8c5f9697f6dd0805001457750d2cac05e00ad992186e325067f5", func := "loop.example/g03313/laws.FnExactStoreImage", spec := "fnExactStoreImage", apart := false }
def FnExactStoreImageSaid : Prop := fnExactStoreImageRow.holds Try.pinned (OpenSpec.ofChange fnExactStoreImageSpec)

/-- ITS FALSE NEIGHBOUR: 'it returns false'. Refute it at one input. -/
def fnExactStoreImageWrong : ChangeSpec := { name := "fnExactStoreImage", fn := fun _ => fun
  | [d1, d2] => { results := [.lit (.bool false)], args := [d1, d2] }
  | _ => none }
def FnExactStoreImageWrongFalsely : Prop := fnExactStoreImageRow.holds Try.pinned (OpenSpec.ofChange fnExactStoreImageWrong)

/-- 'laws.FnDithered': WHATEVER THE INPUT: true; the input reads as it did. -/
def fnDitheredSpec : ChangeSpec := { name := "fnDithered", fn := fun _ => fun
  | [d] => { results := [.lit (.bool true)], args := [d] }
  | _ => none }
def fnDitheredRow : OpenClaim := { program := "ytfjaogmmkfphfaa", sum := "9b0942cee10e8c5f9697f6dd0805001457750d2cac05e00ad992186e325067f5", func := "loop.example/g03313/laws.FnDithered", spec := "fnDithered", unfollowed := true, recurses := true, apart := false }
def FnDitheredSaid : Prop := fnDitheredRow.holds Try.pinned (OpenSpec.ofChange fnDitheredSpec)

/-- ITS FALSE NEIGHBOUR: 'it returns false'. Refute it at one input. -/
def fnDitheredWrong : ChangeSpec := { name := "fnDithered", fn := fun _ => fun
  | [d] => { results := [.lit (.bool false)], args := [d] }
  | _ => none }
def FnDitheredWrongFalsely : Prop := fnDitheredRow.holds Try.pinned (OpenSpec.ofChange fnDitheredWrong)

/-- 'laws.FnExactSurfaceRect': WHATEVER THE INPUT: true; the input reads as it did. -/
def fnExactSurfaceRectSpec : ChangeSpec := { name := "fnExactSurfaceRect", fn := fun _ => fun
  | [d] => { results := [.lit (.bool true)], args := [d] }
  | _ => none }
def fnExactSurfaceRectRow : OpenClaim := { program := "ytfjaogmmkfphfaa", sum := "9b0942cee10e8c5f9697f6dd0805001457750d2cac05e00ad992186e325067f5", func := "loop.example/g03313/laws.FnExactSurfaceRect", spec := "fnExactSurfaceRect", apart := false }
def FnExactSurfaceRectSaid : Prop := fnExactSurfaceRectRow.holds Try.pinned (OpenSpec.ofChange fnExactSurfaceRectSpec)

/-- ITS FALSE NEIGHBOUR: 'it returns false'. Refute it at one input. -/
def fnExactSurfaceRectWrong : ChangeSpec := { name := "fnExactSurfaceRect", fn := fun _ => fun
  | [d] => { results := [.lit (.bool false)], args := [d] }
  | _ => none }
def FnExactSurfaceRectWrongFalsely : Prop := fnExactSurfaceRectRow.holds Try.pinned (OpenSpec.ofChange fnExactSurfaceRectWrong)

/-- 'laws.FnExactSceneOk': WHATEVER THE INPUT: true; the input reads as it did. -/
def fnExactSceneOkSpec : ChangeSpec := { name := "fnExactSceneOk", fn := fun _ => fun
  | [d] => { results := [.lit (.bool true)], args := [d] }
  | _ => none }
def fnExactSceneOkRow : OpenClaim := { program := "ytfjaogmmkfphfaa", sum := "9b0942cee10e8c5f9697f6dd0805001457750d2cac05e00ad992186e325067f5", func := "loop.example/g03313/laws.FnExactSceneOk", spec := "fnExactSceneOk", apart := false }
def FnExactSceneOkSaid : Prop := fnExactSceneOkRow.holds Try.pinned (OpenSpec.ofChange fnExactSceneOkSpec)

/-- ITS FALSE NEIGHBOUR: 'it returns false'. Refute it at one input. -/
def fnExactSceneOkWrong : ChangeSpec := { name := "fnExactSceneOk", fn := fun _ => fun
  | [d] => { results := [.lit (.bool false)], args := [d] }
  | _ => none }
def FnExactSceneOkWrongFalsely : Prop := fnExactSceneOkRow.holds Try.pinned (OpenSpec.ofChange fnExactSceneOkWrong)

/-- 'laws.FnExactColorImage': WHATEVER THE INPUT: true; the input reads as it did. -/
def fnExactColorImageSpec : ChangeSpec := { name := "fnExactColorImage", fn := fun _ => fun
  | [d1, d2] => { results := [.lit (.bool true)], args := [d1, d2] }
  | _ => none }
def fnExactColorImageRow : OpenClaim := { program := "ytfjaogmmkfphfaa", sum := "9b0942cee10e8c5f9697f6dd0805001457750d2cac05e00ad992186e325067f5", func := "loop.example/g03313/laws.FnExactColorImage", spec := "fnExactColorImage", apart := false }
def FnExactColorImageSaid : Prop := fnExactColorImageRow.holds Try.pinned (OpenSpec.ofChange fnExactColorImageSpec)

/-- ITS FALSE NEIGHBOUR: 'it returns false'. Refute it at one input. -/
def fnExactColorImageWrong : ChangeSpec := { name := "fnExactColorImage", fn := fun _ => fun
  | [d1, d2] => { results := [.lit (.bool false)], args := [d1, d2] }
  | _ => none }
def FnExactColorImageWrongFalsely : Prop := fnExactColorImageRow.holds Try.pinned (OpenSpec.ofChange fnExactColorImageWrong)

/-- 'laws.FnLayouts': WHATEVER THE INPUT: true; the input reads as it did. -/
def fnLayoutsSpec : ChangeSpec := { name := "fnLayouts", fn := fun _ => fun
  | [d] => { results := [.lit (.bool true)], args := [d] }
  | _ => none }
def fnLayoutsRow : OpenClaim := { program := "ytfjaogmmkfphfaa", sum := "9b0942cee10e8c5f9697f6dd0805001457750d2cac05e00ad992186e325067f5", func := "loop.example/g03313/laws.FnLayouts", spec := "fnLayouts", unfollowed := true, recurses := true, apart := false }
def FnLayoutsSaid : Prop := fnLayoutsRow.holds Try.pinned (OpenSpec.ofChange fnLayoutsSpec)

/-- ITS FALSE NEIGHBOUR: 'it returns false'. Refute it at one input. -/
def fnLayoutsWrong : ChangeSpec := { name := "fnLayouts", fn := fun _ => fun
  | [d] => { results := [.lit (.bool false)], args := [d] }
  | _ => none }
def FnLayoutsWrongFalsely : Prop := fnLayoutsRow.holds Try.pinned (OpenSpec.ofChange fnLayoutsWrong)

/-- 'laws.FnExactLoadImage': WHATEVER THE INPUT: true; the input reads as it did. -/
def fnExactLoadImageSpec : ChangeSpec := { name := "fnExactLoadImage", fn := fun _ => fun
  | [d1, d2, d3, d4] => { results := [.lit (.bool true)], args := [d1, d2, d3, d4] }
  | _ => none }
def fnExactLoadImageRow : OpenClaim := { program := "ytfjaogmmkfphfaa", sum := "9b0942cee10e8c5f9697f6dd0805001457750d2cac05e00ad992186e325067f5", func := "loop.example/g03313/laws.FnExactLoadImage", spec := "fnExactLoadImage", unfollowed := true, recurses := true, apart := false }
def FnExactLoadImageSaid : Prop := fnExactLoadImageRow.holds Try.pinned (OpenSpec.ofChange fnExactLoadImageSpec)

/-- ITS FALSE NEIGHBOUR: 'it returns false'. Refute it at one input. -/
def fnExactLoadImageWrong : ChangeSpec := { name := "fnExactLoadImage", fn := fun _ => fun
  | [d1, d2, d3, d4] => { results := [.lit (.bool false)], args := [d1, d2, d3, d4] }
  | _ => none }
def FnExactLoadImageWrongFalsely : Prop := fnExactLoadImageRow.holds Try.pinned (OpenSpec.ofChange fnExactLoadImageWrong)

/-- 'laws.FnExactIsOpaque': WHATEVER THE INPUT: true; the input reads as it did. -/
def fnExactIsOpaqueSpec : ChangeSpec := { name := "fnExactIsOpaque", fn := fun _ => fun
  | [d] => { results := [.lit (.bool true)], args := [d] }
  | _ => none }
def fnExactIsOpaqueRow : OpenClaim := { program := "ytfjaogmmkfphfaa", sum := "9b0942cee10e8c5f9697f6dd0805001457750d2cac05e00ad992186e325067f5", func := "loop.example/g03313/laws.FnExactIsOpaque", spec := "fnExactIsOpaque", unfollowed := true, recurses := true, apart := false }
def FnExactIsOpaqueSaid : Prop := fnExactIsOpaqueRow.holds Try.pinned (OpenSpec.ofChange fnExactIsOpaqueSpec)

/-- ITS FALSE NEIGHBOUR: 'it returns false'. Refute it at one input. -/
def fnExactIsOpaqueWrong : ChangeSpec := { name := "fnExactIsOpaque", fn := fun _ => fun
  | [d] => { results := [.lit (.bool false)], args := [d] }
  | _ => none }
def FnExactIsOpaqueWrongFalsely : Prop := fnExactIsOpaqueRow.holds Try.pinned (OpenSpec.ofChange fnExactIsOpaqueWrong)

/-- 'laws.FnExactPaintCost': WHATEVER THE INPUT: true; the input reads as it did. -/
def fnExactPaintCostSpec : ChangeSpec := { name := "fnExactPaintCost", fn := fun _ => fun
  | [d] => { results := [.lit (.bool true)], args := [d] }
  | _ => none }
def fnExactPaintCostRow : OpenClaim := { program := "ytfjaogmmkfphfaa", sum := "9b0942cee10e8c5f9697f6dd0805001457750d2cac05e00ad992186e325067f5", func := "loop.example/g03313/laws.FnExactPaintCost", spec := "fnExactPaintCost", apart := false }
def FnExactPaintCostSaid : Prop := fnExactPaintCostRow.holds Try.pinned (OpenSpec.ofChange fnExactPaintCostSpec)

/-- ITS FALSE NEIGHBOUR: 'it returns false'. Refute it at one input. -/
def fnExactPaintCostWrong : ChangeSpec := { name := "fnExactPaintCost", fn := fun _ => fun
  | [d] => { results := [.lit (.bool false)], args := [d] }
  | _ => none }
def FnExactPaintCostWrongFalsely : Prop := fnExactPaintCostRow.holds Try.pinned (OpenSpec.ofChange fnExactPaintCostWrong)

/-- 'laws.FnExactPictureOf': WHATEVER THE INPUT: true; the input reads as it did. -/
def fnExactPictureOfSpec : ChangeSpec := { name := "fnExactPictureOf", fn := fun _ => fun
  | [d] => { results := [.lit (.bool true)], args := [d] }
  | _ => none }
def fnExactPictureOfRow : OpenClaim := { program := "ytfjaogmmkfphfaa", sum := "9b0942cee10e8c5f9697f6dd0805001457750d2cac05e00ad992186e325067f5", func := "loop.example/g03313/laws.FnExactPictureOf", spec := "fnExactPictureOf", unfollowed := true, recurses := true, apart := false }
def FnExactPictureOfSaid : Prop := fnExactPictureOfRow.holds Try.pinned (OpenSpec.ofChange fnExactPictureOfSpec)

/-- ITS FALSE NEIGHBOUR: 'it returns false'. Refute it at one input. -/
def fnExactPictureOfWrong : ChangeSpec := { name := "fnExactPictureOf", fn := fun _ => fun
  | [d] => { results := [.lit (.bool false)], args := [d] }
  | _ => none }
def FnExactPictureOfWrongFalsely : Prop := fnExactPictureOfRow.holds Try.pinned (OpenSpec.ofChange fnExactPictureOfWrong)

/- THE SECOND FORM. 'bulk': how many values and letters a reading holds, each counted each time it is reached (what is shared counts as often as it is met; a slice's spare places count too). A statement '..UptoSaid' is the law's where the arguments, and the package variables that the reading takes, are together of bulk at most 1048576: NARROWER than '..Said'. Prove '..Said' where nothing that the law and all that it calls make is longer than what came in: it says more and counts as full. Else prove '..UptoSaid'. A law counts once. -/
mutual
def uptoBulk {H : Type} : DataW H → Nat
  | .lit (.string bytes) => bytes.length + 1
  | .lit _ => 1
  | .nil => 1
  | .ptr d => uptoBulk d + 1
  | .slice elems spare => uptoBulkAll elems + uptoBulkAll spare + 1
  | .agg parts => uptoBulkAll parts + 1
  | .iface _ d => uptoBulk d + 1
  | .map entries => uptoBulkEntries entries + 1
  | .held _ => 1
def uptoBulkAll {H : Type} : List (DataW H) → Nat
  | [] => 0
  | d :: r => uptoBulk d + uptoBulkAll r
def uptoBulkEntries {H : Type} : List (Lit × DataW H) → Nat
  | [] => 0
  | x :: r => uptoBulkEntry x + uptoBulkEntries r
def uptoBulkEntry {H : Type} : Lit × DataW H → Nat
  | (.string bytes, d) => bytes.length + uptoBulk d + 1
  | (_, d) => uptoBulk d + 1
 end
def uptoSmall : (H : Type) → List (DataW H) → Bool := fun _ ds => decide (uptoBulkAll ds ≤ 1048576)
def OpenSpec.upto (s : _root_.Go.ChangeSpec) : _root_.Go.OpenSpec := { _root_.Go.OpenSpec.ofChange s with cond := some uptoSmall }

/-- 'laws.FnBeams', WHERE WHAT IT READS IS OF BULK AT MOST 1048576: true; the input reads as it did. -/
def fnBeamsUptoRow : OpenClaim := { program := "ytfjaogmmkfphfaa", sum := "9b0942cee10e8c5f9697f6dd0805001457750d2cac05e00ad992186e325067f5", func := "loop.example/g03313/laws.FnBeams", spec := "fnBeams", apart := false, narrowed := true }
def FnBeamsUptoSaid : Prop := fnBeamsUptoRow.holds Try.pinned (OpenSpec.upto fnBeamsSpec)

/-- 'laws.FnExactColorOk', WHERE WHAT IT READS IS OF BULK AT MOST 1048576: true; the input reads as it did. -/
def fnExactColorOkUptoRow : OpenClaim := { program := "ytfjaogmmkfphfaa", sum := "9b0942cee10e8c5f9697f6dd0805001457750d2cac05e00ad992186e325067f5", func := "loop.example/g03313/laws.FnExactColorOk", spec := "fnExactColorOk", apart := false, narrowed := true }
def FnExactColorOkUptoSaid : Prop := fnExactColorOkUptoRow.holds Try.pinned (OpenSpec.upto fnExactColorOkSpec)

/-- 'laws.FnExactCurveAt', WHERE WHAT IT READS IS OF BULK AT MOST 1048576: true; the input reads as it did. -/
def fnExactCurveAtUptoRow : OpenClaim := { program := "ytfjaogmmkfphfaa", sum := "9b0942cee10e8c5f9697f6dd0805001457750d2cac05e00ad992186e325067f5", func := "loop.example/g03313/laws.FnExactCurveAt", spec := "fnExactCurveAt", apart := false, narrowed := true }
def FnExactCurveAtUptoSaid : Prop := fnExactCurveAtUptoRow.holds Try.pinned (OpenSpec.upto fnExactCurveAtSpec)

/-- 'laws.FnExactMixChannels', WHERE WHAT IT READS IS OF BULK AT MOST 1048576: true; the input reads as it did. -/
def fnExactMixChannelsUptoRow : OpenClaim := { program := "ytfjaogmmkfphfaa", sum := "9b0942cee10e8c5f9697f6dd0805001457750d2cac05e00ad992186e325067f5", func := "loop.example/g03313/laws.FnExactMixChannels", spec := "fnExactMixChannels", apart := false, narrowed := true }
def FnExactMixChannelsUptoSaid : Prop := fnExactMixChannelsUptoRow.holds Try.pinned (OpenSpec.upto fnExactMixChannelsSpec)

/-- 'laws.FnExactSameSurface', WHERE WHAT IT READS IS OF BULK AT MOST 1048576: true; the input reads as it did. -/
def fnExactSameSurfaceUptoRow : OpenClaim := { program := "ytfjaogmmkfphfaa", sum := "9b0942cee10e8c5f9697f6dd0805001457750d2cac05e00ad992186e325067f5", func := "loop.example/g03313/laws.FnExactSameSurface", spec := "fnExactSameSurface", apart := false, narrowed := true }
def FnExactSameSurfaceUptoSaid : Prop := fnExactSameSurfaceUptoRow.holds Try.pinned (OpenSpec.upto fnExactSameSurfaceSpec)

/-- 'laws.FnExactSurfaceOk', WHERE WHAT IT READS IS OF BULK AT MOST 1048576: true; the input reads as it did. -/
def fnExactSurfaceOkUptoRow : OpenClaim := { program := "ytfjaogmmkfphfaa", sum := "9b0942cee10e8c5f9697f6dd0805001457750d2cac05e00ad992186e325067f5", func := "loop.example/g03313/laws.FnExactSurfaceOk", spec := "fnExactSurfaceOk", apart := false, narrowed := true }
def FnExactSurfaceOkUptoSaid : Prop := fnExactSurfaceOkUptoRow.holds Try.pinned (OpenSpec.upto fnExactSurfaceOkSpec)

/-- 'laws.FnColorIdentity', WHERE WHAT IT READS IS OF BULK AT MOST 1048576: true; the input reads as it did. -/
def fnColorIdentityUptoRow : OpenClaim := { program := "ytfjaogmmkfphfaa", sum := "9b0942cee10e8c5f9697f6dd0805001457750d2cac05e00ad992186e325067f5", func := "loop.example/g03313/laws.FnColorIdentity", spec := "fnColorIdentity", apart := false, narrowed := true }
def FnColorIdentityUptoSaid : Prop := fnColorIdentityUptoRow.holds Try.pinned (OpenSpec.upto fnColorIdentitySpec)

/-- 'laws.FnExactColorPixel', WHERE WHAT IT READS IS OF BULK AT MOST 1048576: true; the input reads as it did. -/
def fnExactColorPixelUptoRow : OpenClaim := { program := "ytfjaogmmkfphfaa", sum := "9b0942cee10e8c5f9697f6dd0805001457750d2cac05e00ad992186e325067f5", func := "loop.example/g03313/laws.FnExactColorPixel", spec := "fnExactColorPixel", apart := false, narrowed := true }
def FnExactColorPixelUptoSaid : Prop := fnExactColorPixelUptoRow.holds Try.pinned (OpenSpec.upto fnExactColorPixelSpec)

/-- 'laws.FnExactDitherImage', WHERE WHAT IT READS IS OF BULK AT MOST 1048576: true; the input reads as it did. -/
def fnExactDitherImageUptoRow : OpenClaim := { program := "ytfjaogmmkfphfaa", sum := "9b0942cee10e8c5f9697f6dd0805001457750d2cac05e00ad992186e325067f5", func := "loop.example/g03313/laws.FnExactDitherImage", spec := "fnExactDitherImage", unfollowed := true, recurses := true, apart := false, narrowed := true }
def FnExactDitherImageUptoSaid : Prop := fnExactDitherImageUptoRow.holds Try.pinned (OpenSpec.upto fnExactDitherImageSpec)

/-- 'laws.FnExactSurfaceIndex', WHERE WHAT IT READS IS OF BULK AT MOST 1048576: true; the input reads as it did. -/
def fnExactSurfaceIndexUptoRow : OpenClaim := { program := "ytfjaogmmkfphfaa", sum := "9b0942cee10e8c5f9697f6dd0805001457750d2cac05e00ad992186e325067f5", func := "loop.example/g03313/laws.FnExactSurfaceIndex", spec := "fnExactSurfaceIndex", unfollowed := true, recurses := true, apart := false, narrowed := true }
def FnExactSurfaceIndexUptoSaid : Prop := fnExactSurfaceIndexUptoRow.holds Try.pinned (OpenSpec.upto fnExactSurfaceIndexSpec)

/-- 'laws.FnExactStoreImage', WHERE WHAT IT READS IS OF BULK AT MOST 1048576: true; the input reads as it did. -/
def fnExactStoreImageUptoRow : OpenClaim := { program := "ytfjaogmmkfphfaa", sum := "9b0942cee10e8c5f9697f6dd0805001457750d2cac05e00ad992186e325067f5", func := "loop.example/g03313/laws.FnExactStoreImage", spec := "fnExactStoreImage", apart := false, narrowed := true }
def FnExactStoreImageUptoSaid : Prop := fnExactStoreImageUptoRow.holds Try.pinned (OpenSpec.upto fnExactStoreImageSpec)

/-- 'laws.FnDithered', WHERE WHAT IT READS IS OF BULK AT MOST 1048576: true; the input reads as it did. -/
def fnDitheredUptoRow : OpenClaim := { program := "ytfjaogmmkfphfaa", sum := "9b0942cee10e8c5f9697f6dd0805001457750d2cac05e00ad992186e325067f5", func := "loop.example/g03313/laws.FnDithered", spec := "fnDithered", unfollowed := true, recurses := true, apart := false, narrowed := true }
def FnDitheredUptoSaid : Prop := fnDitheredUptoRow.holds Try.pinned (OpenSpec.upto fnDitheredSpec)

/-- 'laws.FnExactSurfaceRect', WHERE WHAT IT READS IS OF BULK AT MOST 1048576: true; the input reads as it did. -/
def fnExactSurfaceRectUptoRow : OpenClaim := { program := "ytfjaogmmkfphfaa", sum := "9b0942cee10e8c5f9697f6dd0805001457750d2cac05e00ad992186e325067f5", func := "loop.example/g03313/laws.FnExactSurfaceRect", spec := "fnExactSurfaceRect", apart := false, narrowed := true }
def FnExactSurfaceRectUptoSaid : Prop := fnExactSurfaceRectUptoRow.holds Try.pinned (OpenSpec.upto fnExactSurfaceRectSpec)

/-- 'laws.FnExactSceneOk', WHERE WHAT IT READS IS OF BULK AT MOST 1048576: true; the input reads as it did. -/
def fnExactSceneOkUptoRow : OpenClaim := { program := "ytfjaogmmkfphfaa", sum := "9b0942cee10e8c5f9697f6dd0805001457750d2cac05e00ad992186e325067f5", func := "loop.example/g03313/laws.FnExactSceneOk", spec := "fnExactSceneOk", apart := false, narrowed := true }
def FnExactSceneOkUptoSaid : Prop := fnExactSceneOkUptoRow.holds Try.pinned (OpenSpec.upto fnExactSceneOkSpec)

/-- 'laws.FnExactColorImage', WHERE WHAT IT READS IS OF BULK AT MOST 1048576: true; the input reads as it did. -/
def fnExactColorImageUptoRow : OpenClaim := { program := "ytfjaogmmkfphfaa", sum := "9b0942cee10e8c5f9697f6dd0805001457750d2cac05e00ad992186e325067f5", func := "loop.example/g03313/laws.FnExactColorImage", spec := "fnExactColorImage", apart := false, narrowed := true }
def FnExactColorImageUptoSaid : Prop := fnExactColorImageUptoRow.holds Try.pinned (OpenSpec.upto fnExactColorImageSpec)

/-- 'laws.FnLayouts', WHERE WHAT IT READS IS OF BULK AT MOST 1048576: true; the input reads as it did. -/
def fnLayoutsUptoRow : OpenClaim := { program := "ytfjaogmmkfphfaa", sum := "9b0942cee10e8c5f9697f6dd0805001457750d2cac05e00ad992186e325067f5", func := "loop.example/g03313/laws.FnLayouts", spec := "fnLayouts", unfollowed := true, recurses := true, apart := false, narrowed := true }
def FnLayoutsUptoSaid : Prop := fnLayoutsUptoRow.holds Try.pinned (OpenSpec.upto fnLayoutsSpec)

/-- 'laws.FnExactLoadImage', WHERE WHAT IT READS IS OF BULK AT MOST 1048576: true; the input reads as it did. -/
def fnExactLoadImageUptoRow : OpenClaim := { program := "ytfjaogmmkfphfaa", sum := "9b0942cee10e8c5f9697f6dd0805001457750d2cac05e00ad992186e325067f5", func := "loop.example/g03313/laws.FnExactLoadImage", spec := "fnExactLoadImage", unfollowed := true, recurses := true, apart := false, narrowed := true }
def FnExactLoadImageUptoSaid : Prop := fnExactLoadImageUptoRow.holds Try.pinned (OpenSpec.upto fnExactLoadImageSpec)

/-- 'laws.FnExactIsOpaque', WHERE WHAT IT READS IS OF BULK AT MOST 1048576: true; the input reads as it did. -/
def fnExactIsOpaqueUptoRow : OpenClaim := { program := "ytfjaogmmkfphfaa", sum := "9b0942cee10e8c5f9697f6dd0805001457750d2cac05e00ad992186e325067f5", func := "loop.example/g03313/laws.FnExactIsOpaque", spec := "fnExactIsOpaque", unfollowed := true, recurses := true, apart := false, narrowed := true }
def FnExactIsOpaqueUptoSaid : Prop := fnExactIsOpaqueUptoRow.holds Try.pinned (OpenSpec.upto fnExactIsOpaqueSpec)

/-- 'laws.FnExactPaintCost', WHERE WHAT IT READS IS OF BULK AT MOST 1048576: true; the input reads as it did. -/
def fnExactPaintCostUptoRow : OpenClaim := { program := "ytfjaogmmkfphfaa", sum := "9b0942cee10e8c5f9697f6dd0805001457750d2cac05e00ad992186e325067f5", func := "loop.example/g03313/laws.FnExactPaintCost", spec := "fnExactPaintCost", apart := false, narrowed := true }
def FnExactPaintCostUptoSaid : Prop := fnExactPaintCostUptoRow.holds Try.pinned (OpenSpec.upto fnExactPaintCostSpec)

/-- 'laws.FnExactPictureOf', WHERE WHAT IT READS IS OF BULK AT MOST 1048576: true; the input reads as it did. -/
def fnExactPictureOfUptoRow : OpenClaim := { program := "ytfjaogmmkfphfaa", sum := "9b0942cee10e8c5f9697f6dd0805001457750d2cac05e00ad992186e325067f5", func := "loop.example/g03313/laws.FnExactPictureOf", spec := "fnExactPictureOf", unfollowed := true, recurses := true, apart := false, narrowed := true }
def FnExactPictureOfUptoSaid : Prop := fnExactPictureOfUptoRow.holds Try.pinned (OpenSpec.upto fnExactPictureOfSpec)

end Rows
end Go.Proofs.Ytfjaogmmkfphfaa
