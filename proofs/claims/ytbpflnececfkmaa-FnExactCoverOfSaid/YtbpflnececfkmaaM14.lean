/-
  The plain functions, continued: regions joined place by place, areas, marks. No program in sight.
-/
import Derived.Test.YtbpflnececfkmaaM9
import Derived.Test.YtbpflnececfkmaaM13
set_option linter.unusedVariables false
namespace Sx
/-- the first j places are joined -/
def placeG (op : Bool → Bool → Bool) (g h : Grid) (j : Nat) : Grid := fun y x => if y * 16 + x < j then op (g y x) (h y x) else g y x
theorem placeG_zero (op : Bool → Bool → Bool) (g h : Grid) : placeG op g h 0 = g := by funext y x; unfold placeG; rw [if_neg (by omega)]
theorem placeG_all (op : Bool → Bool → Bool) (g h : Grid) {j : Nat} (hj : 256 ≤ j) : (placeG op g h j).eqv (fun y x => op (g y x) (h y x)) := fun y x hy hx => by unfold placeG; rw [if_pos (by omega)]
/-- or, and, without -/
def joinOp (kind : Int) (p q : Bool) : Bool := if kind = 0 then p || q else if kind = 1 then p && q else p && !q
def joinOf (kind : Int) (a c : List DRect) : List DRect := if regionOk a ∧ regionOk c then canon (fun y x => joinOp kind (points a y x) (points c y x)) else []
def withoutOf (a c : List DRect) : List DRect := if regionOk a ∧ regionOk c then canon ((points a).without (points c)) else []
def unionOf (a c : List DRect) : List DRect := if regionOk a ∧ regionOk c then canon ((points a).or (points c)) else []
theorem joinOf_two (a c : List DRect) : joinOf 2 a c = withoutOf a c := by
  unfold joinOf withoutOf
  split
  · exact canon_congr (fun y x _ _ => by simp [joinOp, Grid.without])
  · rfl
theorem joinOf_zero (a c : List DRect) : joinOf 0 a c = unionOf a c := by
  unfold joinOf unionOf
  split
  · exact canon_congr (fun y x _ _ => by simp [joinOp, Grid.or])
  · rfl
def areaOf (l : List DRect) : Int := if regionOk l then area l else 0
theorem area_take_succ {l : List DRect} {j : Nat} (h : j < l.length) : area (l.take (j + 1)) = area (l.take j) + (l.getD j DRect.zero).W * (l.getD j DRect.zero).H := by
  rw [List.take_add_one, List.getElem?_eq_getElem h, area_append]
  simp [area, List.getD_eq_getElem?_getD, List.getElem?_eq_getElem h]
theorem inScreen_side {r : DRect} (h : r.inScreen) : (1 ≤ r.W ∧ r.W ≤ 16) ∧ (1 ≤ r.H ∧ r.H ≤ 16) := by unfold DRect.inScreen at h; omega
theorem inScreen_area {r : DRect} (h : r.inScreen) : 0 ≤ r.W * r.H ∧ r.W * r.H ≤ 256 := by
  have := inScreen_side h
  constructor
  · exact Int.mul_nonneg (by omega) (by omega)
  · exact Int.le_trans (Int.mul_le_mul this.1.2 (Int.le_refl _) (by omega) (by omega)) (by omega)
theorem getD_inScreen {l : List DRect} (h : regionOk l) {j : Nat} (hj : j < l.length) : (l.getD j DRect.zero).inScreen := by
  rw [List.getD_eq_getElem?_getD, List.getElem?_eq_getElem hj]
  exact h.inScreen (List.getElem_mem hj)
theorem area_take_bd {l : List DRect} (h : regionOk l) : ∀ j, 0 ≤ area (l.take j) ∧ area (l.take j) ≤ 256 * j
  | 0 => ⟨Int.le_refl _, Int.le_refl _⟩
  | j + 1 => by
    have ih := area_take_bd h j
    by_cases hj : j < l.length
    · have := inScreen_area (getD_inScreen h hj)
      rw [area_take_succ hj]
      push_cast; omega
    · rw [List.take_of_length_le (by omega)] at ih ⊢
      push_cast; omega
theorem areaOf_bd (l : List DRect) : 0 ≤ areaOf l ∧ areaOf l ≤ 256 * l.length := by
  unfold areaOf
  split
  · rename_i h
    have := area_take_bd h l.length
    rwa [List.take_length] at this
  · omega
theorem sumN_le16 (f : Nat → Nat) (h : ∀ y, f y ≤ 16) : sumN f 16 ≤ 256 := by
  have : ∀ n, sumN f n ≤ 16 * n := fun n => by
    induction n with
    | zero => exact Nat.le_refl _
    | succ n ih => have := h n; simp only [sumN]; omega
  exact this 16
/-- rectangles of ascending numbers -/
def iotaR (k : Int) (n : Nat) : List DRect := (List.range n).map (fun i : Nat => ⟨k + 4 * i, k + 4 * i + 1, k + 4 * i + 2, k + 4 * i + 3⟩)
theorem iotaR_length (k : Int) (n : Nat) : (iotaR k n).length = n := by simp [iotaR]
theorem iotaR_get (k : Int) {n i : Nat} (h : i < n) : (iotaR k n).getD i DRect.zero = ⟨k + 4 * i, k + 4 * i + 1, k + 4 * i + 2, k + 4 * i + 3⟩ := by
  simp [iotaR, List.getD_eq_getElem?_getD, h]
theorem iotaR_succ (k : Int) (n : Nat) : iotaR k (n + 1) = iotaR k n ++ [⟨k + 4 * n, k + 4 * n + 1, k + 4 * n + 2, k + 4 * n + 3⟩] := by
  simp [iotaR, List.range_succ]
/-- points of a list's first rectangles that are valid -/
theorem points_take_ok {l : List DRect} {k : Nat} (h : k < l.length) (hk : ¬ (l.getD k DRect.zero).ok) : points (l.take (k + 1)) = points (l.take k) := by
  rw [points_take h]
  funext y x
  unfold Grid.or rectG DRect.holds
  rw [decide_eq_false (fun hh => hk hh.1), Bool.or_false]
/-! covered: the first m surfaces of a list -/
def hideG (l : List DSurf) (m : Nat) : Grid := fun y x => (l.take m).any (fun q => hides q y x)
theorem hideG_zero (l : List DSurf) : hideG l 0 = Grid.none := by funext y x; rfl
theorem hideG_succ {l : List DSurf} {m : Nat} (h : m < l.length) (y x : Nat) : hideG l (m + 1) y x = (hideG l m y x || hides (l.getD m default) y x) := by
  unfold hideG
  rw [List.take_add_one, List.any_append, List.getElem?_eq_getElem h, List.getD_eq_getElem?_getD, List.getElem?_eq_getElem h]
  simp
theorem hideG_yes {l : List DSurf} {m : Nat} (h : m < l.length) (ho : isOpaqueS (l.getD m default)) : (hideG l m).or (rectG (surfRect (l.getD m default))) = hideG l (m + 1) := by
  funext y x
  rw [hideG_succ h]
  unfold Grid.or hides rectG
  rw [decide_eq_true ho, Bool.true_and]
theorem hideG_no {l : List DSurf} {m : Nat} (h : m < l.length) (ho : ¬ (isOpaqueS (l.getD m default) ∧ (l.getD m default).Visible = true)) : hideG l (m + 1) = hideG l m := by
  funext y x
  rw [hideG_succ h]
  unfold hides
  by_cases h1 : isOpaqueS (l.getD m default)
  · have hv : ¬ (l.getD m default).Visible = true := fun e => ho ⟨h1, e⟩
    unfold DRect.holds
    rw [surfRect_hid hv, decide_eq_false (zero_has _ _), Bool.and_false, Bool.or_false]
  · rw [decide_eq_false h1, Bool.false_and, Bool.or_false]
theorem coverG_hide (s : DScene) (n : Nat) {m : Nat} (hm : (s.ss.drop n).length ≤ m) : coverG s n = (hideG (s.ss.drop n) m).and (scrG s) := by
  unfold coverG hideG
  rw [List.take_of_length_le hm]
def coverOf (s : DScene) (k : Int) : List DRect := if s.ok ∧ (-1 ≤ k ∧ k ≤ (s.ss.length : Int) - 1) then canon (coverG s (k + 1).toNat) else []
def visibleOf (s : DScene) (k : Int) : List DRect := if s.ok ∧ (0 ≤ k ∧ k ≤ (s.ss.length : Int) - 1) then canon (seenG s k.toNat) else []
theorem coverOf_ok (s : DScene) (k : Int) : regionOk (coverOf s k) := by
  unfold coverOf; split
  · exact regionOk_canon _
  · exact regionOk_nil
theorem visibleOf_ok (s : DScene) (k : Int) : regionOk (visibleOf s k) := by
  unfold visibleOf; split
  · exact regionOk_canon _
  · exact regionOk_nil
/-! the reference's list of what covers -/
def coverL (s : DScene) (k : Nat) : Nat → List DRect
  | 0 => []
  | m + 1 => coverL s k m ++ (if isOpaqueS (s.ss.getD (k + m) default) then [(surfRect (s.ss.getD (k + m) default)).inter (scrR s)] else [])
theorem coverL_length (s : DScene) (k : Nat) : ∀ m, (coverL s k m).length ≤ m
  | 0 => Nat.le_refl _
  | m + 1 => by
    have := coverL_length s k m
    unfold coverL
    rw [List.length_append]
    split <;> simp <;> omega
theorem coverL_points {s : DScene} (h : s.ok) (k : Nat) : ∀ m, k + m ≤ s.ss.length → points (coverL s k m) = (hideG (s.ss.drop k) m).and (scrG s)
  | 0, _ => by
    funext y x
    rw [hideG_zero]; rfl
  | m + 1, hm => by
    have ih := coverL_points h k m (by omega)
    have hd : m < (s.ss.drop k).length := by rw [List.length_drop]; omega
    have hg : (s.ss.drop k).getD m default = s.ss.getD (k + m) default := by
      rw [List.getD_eq_getElem?_getD, List.getD_eq_getElem?_getD, List.getElem?_drop]
    funext y x
    unfold coverL
    rw [points_append, ih]
    unfold Grid.and
    rw [hideG_succ hd, hg]
    unfold hides
    by_cases ho : isOpaqueS (s.ss.getD (k + m) default)
    · rw [if_pos ho, points_one, decide_eq_true ho, Bool.true_and, Bool.and_or_distrib_right]
      unfold rectG scrG
      rw [inter_holds (scrR_ok h)]; rfl
    · rw [if_neg ho, points_nil, decide_eq_false ho, Bool.false_and, Bool.or_false, Bool.or_false]
theorem coverL_all {s : DScene} (h : s.ok) (k : Nat) (hk : k ≤ s.ss.length) : points (coverL s k (s.ss.length - k)) = coverG s k := by
  rw [coverL_points h k _ (by omega), coverG_hide s k (m := s.ss.length - k) (by rw [List.length_drop]; omega)]
theorem visibleOf_join {s : DScene} (h : s.ok) {k : Nat} (hk : k < s.ss.length) : withoutOf (canon (points [(surfRect (s.ss.getD k default)).inter (scrR s)])) (coverOf s k) = visibleOf s k := by
  unfold withoutOf visibleOf
  rw [if_pos ⟨regionOk_canon _, coverOf_ok s k⟩, if_pos ⟨h, by omega⟩]
  refine canon_congr (fun y x hy hx => ?_)
  unfold seenG Grid.without
  rw [points_canon _ y x hy hx, points_one]
  unfold coverOf
  rw [if_pos ⟨h, by omega⟩, points_canon _ y x hy hx, show ((k : Int) + 1).toNat = k + 1 by omega]
  show ((rectG ((surfRect (s.ss.getD k default)).inter (scrR s)) y x) && _) = _
  unfold rectG
  rw [inter_holds (scrR_ok h), show ((k : Int)).toNat = k from rfl]
  rfl
end Sx
