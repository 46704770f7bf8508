/-
  How the program's structs lie in memory.
-/
import Derived.Test.YtfmjeakcfmmkfaaGreatTypes
import Derived.Test.YtfmjeakcfmmkfaaGreatM1
set_option linter.unusedVariables false
namespace Go.Proofs.YtfmjeakcfmmkfaaGreat
open Go Sx
abbrev cImg (i : DImg) (d : Value) : List Value := [.int .i64 i.W, .int .i64 i.H, d]
abbrev vImg (i : DImg) (d : Value) : Value := .agg #[.int .i64 i.W, .int .i64 i.H, d]
def OImg (u : Value) (i : DImg) (H : SPiece) : Prop := ∃ d, u = vImg i d ∧ OInts 3 d i.data H
def eImg : SElem DImg where
  k := 3
  dflt := DImg.zero
  cells := cImg
  klen := fun _ _ => rfl
  rd := fun w d i => RInts w d i.data
  own := fun d i H => OInts 3 d i.data H
  keep := fun h hw => RInts.keep h hw
  reads := fun h hw => OInts.reads h hw
theorem eImg_dflt : eImg.dflt = DImg.zero := rfl
abbrev cRect (r : DRect) : List Value := [.int .i64 r.X, .int .i64 r.Y, .int .i64 r.W, .int .i64 r.H]
abbrev vRect (r : DRect) : Value := .agg #[.int .i64 r.X, .int .i64 r.Y, .int .i64 r.W, .int .i64 r.H]
abbrev vColor (a b : Value) : Value := .agg #[a, b]
abbrev cSurf (s : DSurf) (d : Value) : List Value := [.int .i64 s.Id, .int .i64 s.X, .int .i64 s.Y, .int .i64 s.W, .int .i64 s.H, .int .i64 s.Alpha, .int .i64 s.Orient, .bool s.Visible, .int .i64 s.buf.W, .int .i64 s.buf.H, d]
abbrev vSurf (s : DSurf) (d : Value) : Value := .agg #[.int .i64 s.Id, .int .i64 s.X, .int .i64 s.Y, .int .i64 s.W, .int .i64 s.H, .int .i64 s.Alpha, .int .i64 s.Orient, .bool s.Visible, .int .i64 s.buf.W, .int .i64 s.buf.H, d]
def OSurf (u : Value) (s : DSurf) (H : SPiece) : Prop := ∃ d, u = vSurf s d ∧ OInts 3 d s.buf.data H
def eSurf : SElem DSurf where
  k := 11
  dflt := default
  cells := cSurf
  klen := fun _ _ => rfl
  rd := fun w d s => RInts w d s.buf.data
  own := fun d s H => OInts 3 d s.buf.data H
  keep := fun h hw => RInts.keep h hw
  reads := fun h hw => OInts.reads h hw
theorem eSurf_ones {s : DSurf} {d : Value} (h : d.oneCell' = true) : oneCells (eSurf.cells s d) = true :=
  ones_cons rfl (ones_cons rfl (ones_cons rfl (ones_cons rfl (ones_cons rfl (ones_cons rfl (ones_cons rfl (ones_cons rfl (ones_cons rfl (ones_cons rfl (ones_cons h rfl))))))))))
theorem eSurf_dflt : eSurf.dflt = default := rfl
abbrev vScene (s : DScene) (v : Value) : Value := .agg #[.int .i64 s.W, .int .i64 s.H, .int .i64 s.Back, v]
end Go.Proofs.YtfmjeakcfmmkfaaGreat
