/-
  The plain functions, continued: the points of rectangles, one by one. No program in sight.
-/
import Derived.Test.YtbpflnececfkmaaM2
set_option linter.unusedVariables false
namespace Sx
/-- a rectangle is marked up to row j, and in that row up to place i -/
def boxG (r : DRect) (old : Grid) (j i : Nat) : Grid := fun b a => old b a || decide ((r.X ≤ (a : Int) ∧ (a : Int) < r.X + r.W ∧ r.Y ≤ (b : Int)) ∧ ((b : Int) < r.Y + j ∨ ((b : Int) = r.Y + j ∧ (a : Int) < r.X + i)))
def putG (g : Grid) (y x : Nat) : Grid := fun b a => if b = y ∧ a = x then true else g b a
theorem boxG_zero (r : DRect) (old : Grid) : (boxG r old 0 0).eqv old := fun b a _ _ => by
  unfold boxG; rw [decide_eq_false (by omega), Bool.or_false]
theorem boxG_next {r : DRect} {old : Grid} {j i : Nat} (h0 : 0 ≤ r.X ∧ 0 ≤ r.Y) (hi : (i : Int) < r.W) : (putG (boxG r old j i) (r.Y + j).toNat (r.X + i).toNat).eqv (boxG r old j (i + 1)) := fun b a _ _ => by
  unfold putG boxG
  by_cases e : b = (r.Y + j).toNat ∧ a = (r.X + i).toNat
  · rw [if_pos e, decide_eq_true (by push_cast; omega), Bool.or_true]
  · rw [if_neg e]
    congr 1
    exact decide_eq_decide.2 ⟨fun h => ⟨h.1, by push_cast; omega⟩, fun h => ⟨h.1, by have h2 := h.2; push_cast at h2; omega⟩⟩
theorem boxG_row {r : DRect} {old : Grid} {j i : Nat} (hi : r.W ≤ (i : Int)) : (boxG r old j i).eqv (boxG r old (j + 1) 0) := fun b a _ _ => by
  unfold boxG
  congr 1
  exact decide_eq_decide.2 ⟨fun h => ⟨h.1, by push_cast; omega⟩, fun h => ⟨h.1, by have h2 := h.2; push_cast at h2; omega⟩⟩
theorem boxG_all {r : DRect} (h : r.ok) {old : Grid} {j : Nat} (hj : r.H = (j : Int)) : (boxG r old j 0).eqv (old.or (rectG r)) := fun b a _ _ => by
  unfold boxG Grid.or rectG DRect.holds
  congr 1
  exact decide_eq_decide.2 ⟨fun hh => ⟨h, by omega⟩, fun hh => by have h2 := hh.2; omega⟩
theorem points_take {l : List DRect} {k : Nat} (h : k < l.length) : points (l.take (k + 1)) = (points (l.take k)).or (rectG (l.getD k DRect.zero)) := by
  rw [List.take_add_one, List.getElem?_eq_getElem h, Option.toList_some, points_congr_append, points_one]
  congr 2
  rw [List.getD_eq_getElem?_getD, List.getElem?_eq_getElem h]; rfl
theorem points_take_screen {l : List DRect} {k : Nat} (h : k < l.length) : ((points (l.take k)).or (rectG ((l.getD k DRect.zero).inter DRect.screen))).eqv (points (l.take (k + 1))) := by
  rw [points_take h]
  exact Grid.or_congr (Grid.eqv.refl _) inter_screen
end Sx
