/-
  The program's grids: sixteen rows as numbers. Rules for their bits.
-/
import Derived.Test.YtfmjeakcfmmkfaaGreatKR
import Derived.Test.YtfmjeakcfmmkfaaGreatK11
import Derived.Test.YtfmjeakcfmmkfaaGreatKF
set_option linter.unusedVariables false
namespace Go.Proofs.YtfmjeakcfmmkfaaGreat
open Go Sx
attribute [local irreducible] Exit.then Exit.inBlock bodyPost
def rowV (g : Grid) (y : Nat) : Value := .int .i64 (Sx.bits (g y) 16 : Nat)
abbrev gcells (g : Grid) : List Value := [rowV g 0, rowV g 1, rowV g 2, rowV g 3, rowV g 4, rowV g 5, rowV g 6, rowV g 7, rowV g 8, rowV g 9, rowV g 10, rowV g 11, rowV g 12, rowV g 13, rowV g 14, rowV g 15]
abbrev gval (g : Grid) : Value := .agg #[rowV g 0, rowV g 1, rowV g 2, rowV g 3, rowV g 4, rowV g 5, rowV g 6, rowV g 7, rowV g 8, rowV g 9, rowV g 10, rowV g 11, rowV g 12, rowV g 13, rowV g 14, rowV g 15]
def gl (g : Grid) : List Value := (List.range 16).map (rowV g)
theorem gl_eq (g : Grid) : gl g = gcells g := rfl
theorem gl_get (g : Grid) {y : Nat} (h : y < 16) : (gl g)[y]? = some (rowV g y) := by simp [gl, h]
theorem rowV_congr {g h : Grid} (e : g.eqv h) {y : Nat} (hy : y < 16) : rowV g y = rowV h y := by
  unfold rowV; rw [bits_congr 16 (fun i hi => e y i hy hi)]
theorem gl_congr {g h : Grid} (e : g.eqv h) : gl g = gl h := List.map_congr_left (fun y hy => rowV_congr e (List.mem_range.1 hy))
theorem gval_congr {g h : Grid} (e : g.eqv h) : gval g = gval h := by
  have := gl_congr e
  rw [gl_eq, gl_eq] at this
  show Value.agg (gcells g).toArray = Value.agg (gcells h).toArray
  rw [this]
def Grid.row (g : Grid) (y : Nat) (f : Nat → Bool) : Grid := fun b => if b = y then f else g b
theorem gl_set (g : Grid) {y : Nat} (hy : y < 16) (f : Nat → Bool) : (gl g).set y (.int .i64 (Sx.bits f 16 : Nat)) = gl (Grid.row g y f) := by
  apply List.ext_getElem?
  intro q
  rw [List.getElem?_set]
  by_cases hq : q < 16
  · rw [gl_get g hq, gl_get _ hq]
    unfold rowV Grid.row
    by_cases e : y = q
    · subst e; simp [gl, hy]
    · have e' : ¬ q = y := fun hh => e hh.symm
      simp [e, e']
  · have h1 : (gl g).length ≤ q := by simp [gl]; omega
    have h2 : (gl (Grid.row g y f)).length ≤ q := by simp [gl]; omega
    rw [List.getElem?_eq_none h1, List.getElem?_eq_none h2, if_neg (by omega)]
theorem none_zero : gcells Grid.none = List.replicate 16 (Value.int .i64 0) := rfl
theorem bits16 (f : Nat → Bool) : 0 ≤ ((Sx.bits f 16 : Nat) : Int) ∧ ((Sx.bits f 16 : Nat) : Int) ≤ 65535 := by
  have := bits_lt f 16
  omega
section
variable {P : Program} {n : Nat} {lo : SMut} {s : World} {E : SEnv} {L : SHeap} {d : Option Tmp} {ty : TypeId} {pos : String} {after : Array Edge} {g0 : Option (Nat × Bool)} {x y : Operand} {xt yt : TypeId}
/-- an array of zeros -/
theorem ov_buildA0 {t e : TypeId} {len : Nat} {zl : List Value} {ze : Value} {k by_ ke be : Nat} [hu : SUnd P t (.array len e)] [hi : SInf P t (.agg zl.toArray) k by_] [he : SInf P e ze ke be] :
    SOpV P n lo s E L ⟨d, .build t #[], ty, pos, after, g0⟩ (.agg zl.toArray) :=
  SOpV.of_run fun a ha w hw => by
    obtain ⟨i1, h1, h2, h3, h4⟩ := hi.out
    obtain ⟨i2, q1, q2, q3, q4⟩ := he.out
    have hb : P.built t ([] : List (Nat × Value)) = some zl.toArray := by
      unfold Program.built
      simp only [h1, hu.h, h2, q1]
      rfl
    have := run_build w t #[] zl.toArray hb
    simp [execOp, this]
/-- a row of a grid in memory -/
theorem ov_ldG (g : Grid) {t : TypeId} {b i j : Nat} {td : TypeDesc} {T : TypeId} [hu : SUnd P t td] (hx : sval E x = some (.pointer (some ⟨b, 0 + j * 1, none⟩))) (hr : sisRow td = false) (hL : getL L i = some [(b, srow (gl g) T)]) (hj : j < 16) :
    SOpV P n lo s E L ⟨d, .load t x, ty, pos, after, g0⟩ (.int .i64 (Sx.bits (g j) 16 : Nat)) :=
  ov_load hx hr (getL_flat hL (List.mem_singleton.2 rfl)) (by rw [snth_eq, Nat.zero_add, Nat.mul_one]; exact gl_get g hj)
theorem ov_orG {f h : Nat → Bool} (hx : sval E x = some (.int .i64 (Sx.bits f 16 : Nat))) (hy : sval E y = some (.int .i64 (Sx.bits h 16 : Nat))) :
    SOpV P n lo s E L ⟨d, .binOp .or xt x y yt, ty, pos, after, g0⟩ (.int .i64 (Sx.bits (fun i => f i || h i) 16 : Nat)) := by
  have h1 := bits16 f
  have h2 := bits16 h
  have := ov_or (P := P) (n := n) (lo := lo) (s := s) (L := L) (d := d) (ty := ty) (pos := pos) (after := after) (g := g0) (xt := xt) (yt := yt) hx hy (by omega) (by omega)
  rw [Int.toNat_natCast, Int.toNat_natCast, bits_or] at this
  exact this
theorem ov_andG {f h : Nat → Bool} (hx : sval E x = some (.int .i64 (Sx.bits f 16 : Nat))) (hy : sval E y = some (.int .i64 (Sx.bits h 16 : Nat))) :
    SOpV P n lo s E L ⟨d, .binOp .and xt x y yt, ty, pos, after, g0⟩ (.int .i64 (Sx.bits (fun i => f i && h i) 16 : Nat)) := by
  have h1 := bits16 f
  have h2 := bits16 h
  have := ov_and (P := P) (n := n) (lo := lo) (s := s) (L := L) (d := d) (ty := ty) (pos := pos) (after := after) (g := g0) (xt := xt) (yt := yt) hx hy (by omega) (by omega)
  rw [Int.toNat_natCast, Int.toNat_natCast, bits_and] at this
  exact this
/-- one shifted left -/
theorem ov_bit {kj : IntKind} {j : Int} (hx : sval E x = some (.int .i64 1)) (hy : sval E y = some (.int kj j)) (hj : 0 ≤ j ∧ j ≤ 16) :
    SOpV P n lo s E L ⟨d, .binOp .shl xt x y yt, ty, pos, after, g0⟩ (.int .i64 ((2 ^ j.toNat : Nat) : Int)) := by
  have hp : (2 : Nat) ^ j.toNat ≤ 2 ^ 16 := Nat.pow_le_pow_right (by omega) (by omega)
  have e : (1 : Int) * 2 ^ j.toNat = ((2 ^ j.toNat : Nat) : Int) := by push_cast; omega
  have hm : ∀ m : Nat, m ≤ 2 ^ 16 → -9223372036854775808 ≤ (m : Int) ∧ (m : Int) ≤ 9223372036854775807 := fun m h => by omega
  have := ov_shl (P := P) (n := n) (lo := lo) (s := s) (L := L) (d := d) (ty := ty) (pos := pos) (after := after) (g := g0) (xt := xt) (yt := yt) hx hy (by omega) (by rw [e]; exact hm _ hp)
  rw [e] at this
  exact this
/-- is this bit there -/
theorem ov_andBit {f : Nat → Bool} {j : Nat} (hx : sval E x = some (.int .i64 (Sx.bits f 16 : Nat))) (hy : sval E y = some (.int .i64 ((2 ^ j : Nat) : Int))) (hj : j < 16) :
    SOpV P n lo s E L ⟨d, .binOp .and xt x y yt, ty, pos, after, g0⟩ (.int .i64 (if f j = true then ((2 ^ j : Nat) : Int) else 0)) := by
  have h1 := bits16 f
  have hp : (2 : Nat) ^ j ≤ 2 ^ 16 := Nat.pow_le_pow_right (by omega) (by omega)
  have hm : ∀ m : Nat, m ≤ 2 ^ 16 → 0 ≤ (m : Int) ∧ (m : Int) ≤ 9223372036854775807 := fun m h => by omega
  have := ov_and (P := P) (n := n) (lo := lo) (s := s) (L := L) (d := d) (ty := ty) (pos := pos) (after := after) (g := g0) (xt := xt) (yt := yt) hx hy (by omega) (hm _ hp)
  rw [Int.toNat_natCast, Int.toNat_natCast, bits_and_bit f hj] at this
  split at this
  · rename_i h; rw [if_pos h]; exact this
  · rename_i h; rw [if_neg h]; exact this
end
theorem bit_ne {p : Bool} {j : Nat} : (if p = true then ((2 ^ j : Nat) : Int) else 0) ≠ 0 ↔ p = true := by
  have h2 : 0 < 2 ^ j := Nat.pow_pos (by omega)
  cases p
  · simp
  · have hm : ∀ m : Nat, 0 < m → (m : Int) ≠ 0 := fun m h => by omega
    rw [if_pos rfl]
    exact ⟨fun _ => rfl, fun _ => hm _ h2⟩
end Go.Proofs.YtfmjeakcfmmkfaaGreat
