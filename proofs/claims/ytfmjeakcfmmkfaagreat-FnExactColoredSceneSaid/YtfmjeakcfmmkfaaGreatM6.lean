/-
  The plain functions, continued: places in pictures that are turned and scaled; fading in place; colors in place. No program in sight.
-/
import Derived.Test.YtfmjeakcfmmkfaaGreatM3
set_option linter.unusedVariables false
namespace Sx
theorem orient_idx {i : DImg} {o : Int} (h : i.ok) (ho : 0 ≤ o ∧ o ≤ 7) {x y : Int} (hx : 0 ≤ x ∧ x < i.W) (hy : 0 ≤ y ∧ y < i.H) :
    (0 ≤ (orientPoint i.W i.H o x y).2 * (orientSize i.W i.H o).1 ∧ (orientPoint i.W i.H o x y).2 * (orientSize i.W i.H o).1 ≤ 256) ∧ (0 ≤ (orientPoint i.W i.H o x y).1 ∧ (orientPoint i.W i.H o x y).1 ≤ 15) ∧
    (orientPoint i.W i.H o x y).2 * (orientSize i.W i.H o).1 + (orientPoint i.W i.H o x y).1 < i.W * i.H := by
  have hok : orientOk i.W i.H o := ⟨h.1, h.2.1, ho⟩
  have hb := orientPt_bd hok (x := x) (y := y) (by omega) (by omega)
  have h1 := h.1
  have h2 := h.2.1
  unfold orientPoint orientSize
  rw [if_pos ⟨hok, by omega, by omega⟩, if_pos hok]
  by_cases e : o % 2 = 1
  · rw [if_pos e] at hb ⊢
    rw [if_pos e] at hb
    have := place_lt (w := i.H) (h := i.W) (x := (orientPt i.W i.H o x y).1) (y := (orientPt i.W i.H o x y).2) (by omega) (by omega)
    have hm := mul_bd (a := (orientPt i.W i.H o x y).2) (b := i.H) (A := 15) (B := 16) (by omega) (by omega)
    rw [Int.mul_comm i.H i.W] at this
    dsimp only
    omega
  · rw [if_neg e] at hb ⊢
    rw [if_neg e] at hb
    have := place_lt (w := i.W) (h := i.H) (x := (orientPt i.W i.H o x y).1) (y := (orientPt i.W i.H o x y).2) (by omega) (by omega)
    have hm := mul_bd (a := (orientPt i.W i.H o x y).2) (b := i.W) (A := 15) (B := 16) (by omega) (by omega)
    dsimp only
    omega
theorem orientSize_mul {w h o : Int} (hok : orientOk w h o) : (orientSize w h o).1 * (orientSize w h o).2 = w * h := by
  unfold orientSize
  rw [if_pos hok]
  split
  · exact Int.mul_comm ..
  · rfl
theorem orientSize_bd {w h o : Int} (hok : orientOk w h o) : (1 ≤ (orientSize w h o).1 ∧ (orientSize w h o).1 ≤ 16) ∧ (1 ≤ (orientSize w h o).2 ∧ (orientSize w h o).2 ≤ 16) := by
  have hok' := hok
  unfold orientOk at hok'
  unfold orientSize
  rw [if_pos hok]
  split <;> (dsimp only; omega)
theorem ofill_next {i : DImg} {o : Int} (h : i.ok) (ho : 0 ≤ o ∧ o ≤ 7) {k : Nat} (hk : k < i.data.length) :
    (ofill i o k).set ((orientPoint i.W i.H o ((k : Int) % i.W) ((k : Int) / i.W)).2 * (orientSize i.W i.H o).1 + (orientPoint i.W i.H o ((k : Int) % i.W) ((k : Int) / i.W)).1).toNat (i.data.getD k 0) = ofill i o (k + 1) := by
  have hok : orientOk i.W i.H o := ⟨h.1, h.2.1, ho⟩
  have hm := mod_row (w := i.W) (q := k) h.1.1
  have hd := div_lt (w := i.W) (h := i.H) (q := k) h.1.1 (by rw [← h.lenN]; omega)
  unfold orientPoint orientSize
  rw [if_pos ⟨hok, by omega, by omega⟩, if_pos hok]
  conv => rhs; unfold ofill
  dsimp only
  by_cases e : o % 2 = 1
  · simp only [if_pos e]
  · simp only [if_neg e]
theorem kplace {w h : Int} (hw : 1 ≤ w) {x y : Nat} (hx : (x : Int) < w) (hy : (y : Int) < h) : ((y * w.toNat + x : Nat) : Int) % w = x ∧ ((y * w.toNat + x : Nat) : Int) / w = y ∧ y * w.toNat + x < (w * h).toNat ∧ ((y * w.toNat + x : Nat) : Int) = y * w + x := by
  have e : ((y * w.toNat + x : Nat) : Int) = (y : Int) * w + x := by push_cast; rw [Int.toNat_of_nonneg (by omega)]
  have h1 := row_mod (w := w) (x := x) (y := y) (by omega) (by omega)
  have h2 := place_lt (w := w) (h := h) (x := x) (y := y) (by omega) (by omega)
  rw [e]
  exact ⟨h1.1, h1.2, by omega, rfl⟩
theorem ofill_next' {i : DImg} {o : Int} (h : i.ok) (ho : 0 ≤ o ∧ o ≤ 7) {x y : Nat} (hx : (x : Int) < i.W) (hy : (y : Int) < i.H) :
    (ofill i o (y * i.W.toNat + x)).set ((orientPoint i.W i.H o x y).2 * (orientSize i.W i.H o).1 + (orientPoint i.W i.H o x y).1).toNat (i.data.getD ((y : Int) * i.W + x).toNat 0) = ofill i o (y * i.W.toNat + (x + 1)) := by
  have hk := kplace (w := i.W) (h := i.H) h.1.1 hx hy
  have := ofill_next h ho (k := y * i.W.toNat + x) (by rw [h.lenN]; exact hk.2.2.1)
  rw [hk.1, hk.2.1] at this
  rw [← hk.2.2.2, Int.toNat_natCast]
  exact this
theorem rows_end {w h : Int} {y : Nat} (hw : 1 ≤ w) (hy : (y : Int) = h) : y * w.toNat = (w * h).toNat := by
  have h2 : ((y * w.toNat : Nat) : Int) = w * h := by push_cast; rw [hy, Int.toNat_of_nonneg (by omega), Int.mul_comm]
  omega
theorem rows_next {w : Int} {y x : Nat} (hx : (x : Int) = w) : y * w.toNat + x = (y + 1) * w.toNat := by
  rw [Nat.succ_mul]; omega
theorem rows_le {w h : Int} {y : Nat} (hw : 1 ≤ w ∧ w ≤ 16) (hh : 1 ≤ h ∧ h ≤ 16) (hy : (y : Int) ≤ h) : y * w.toNat ≤ 256 := by
  have := Nat.mul_le_mul (show y ≤ 16 by omega) (show w.toNat ≤ 16 by omega); omega
/-! ### chapter 7 -/
theorem scalePoint_in {f t k : Int} (hf : 1 ≤ f ∧ f ≤ 16) (ht : 1 ≤ t ∧ t ≤ 16) (hk : 0 ≤ k ∧ k < t) : scalePoint f t k = k * f / t ∧ 0 ≤ scalePoint f t k ∧ scalePoint f t k < f := by
  unfold scalePoint
  rw [if_pos ⟨hf, ht, by omega⟩]
  have h0 : 0 ≤ k * f := Int.mul_nonneg (by omega) (by omega)
  have h1 : (k + 1) * f ≤ t * f := Int.mul_le_mul_of_nonneg_right (by omega) (by omega)
  rw [Int.add_mul, Int.one_mul, Int.mul_comm t f] at h1
  exact ⟨rfl, Int.ediv_nonneg h0 (by omega), Int.ediv_lt_of_lt_mul (by omega) (by omega)⟩
theorem scale_idx {i : DImg} {w h : Int} (hi : i.ok) (hw : 1 ≤ w ∧ w ≤ 16) (hh : 1 ≤ h ∧ h ≤ 16) {x y : Int} (hx : 0 ≤ x ∧ x < w) (hy : 0 ≤ y ∧ y < h) :
    (0 ≤ scalePoint i.H h y * i.W ∧ scalePoint i.H h y * i.W ≤ 256) ∧ (0 ≤ scalePoint i.W w x ∧ scalePoint i.W w x ≤ 15) ∧ scalePoint i.H h y * i.W + scalePoint i.W w x < i.data.length ∧
    i.data.getD (scalePoint i.H h y * i.W + scalePoint i.W w x).toNat 0 = scaleAt i w h x y := by
  have h1 := scalePoint_in hi.2.1 hh hy
  have h2 := scalePoint_in hi.1 hw hx
  have hp := place_lt (w := i.W) (h := i.H) h2.2 h1.2
  have hm := mul_bd (a := scalePoint i.H h y) (b := i.W) (A := 16) (B := 16) (by have := hi.2.1; omega) (by have := hi.1; omega)
  have hl := hi.2.2.1
  have hi1 := hi.1
  refine ⟨by omega, by omega, by omega, ?_⟩
  unfold scaleAt
  rw [h1.1, h2.1]
/-! ### fading in place -/
def mapFirst (f : Int → Int) (l : List Int) (j : Nat) : List Int := (l.take j).map f ++ l.drop j
theorem mapFirst_zero (f : Int → Int) (l : List Int) : mapFirst f l 0 = l := by simp [mapFirst]
theorem mapFirst_all (f : Int → Int) (l : List Int) {j : Nat} (h : l.length ≤ j) : mapFirst f l j = l.map f := by simp [mapFirst, List.take_of_length_le h, List.drop_of_length_le h]
theorem mapFirst_length (f : Int → Int) (l : List Int) (j : Nat) : (mapFirst f l j).length = l.length := by simp [mapFirst]; omega
theorem mapFirst_get (f : Int → Int) (l : List Int) {j : Nat} (h : j < l.length) : (mapFirst f l j).getD j 0 = l.getD j 0 := by
  simp only [mapFirst, List.getD_eq_getElem?_getD]
  rw [List.getElem?_append_right (by simp; omega)]
  simp [show j - min j l.length = 0 by omega]
theorem mapFirst_set (f : Int → Int) (l : List Int) {j : Nat} (h : j < l.length) : (mapFirst f l j).set j (f (l.getD j 0)) = mapFirst f l (j + 1) := by
  unfold mapFirst
  have hl : ((l.take j).map f).length = j := by simp; omega
  rw [List.set_append_right _ _ (by omega), hl, Nat.sub_self, List.drop_eq_getElem_cons h, List.set_cons_zero, List.take_add_one]
  simp only [Option.toList_some, List.map_append, List.map_cons, List.map_nil, List.append_assoc, List.cons_append, List.nil_append, List.getD_eq_getElem?_getD, List.getElem?_eq_getElem h, Option.getD_some]
theorem map_take_succ (f : Int → Int) (l : List Int) {j : Nat} (h : j < l.length) : (l.take j).map f ++ [f (l.getD j 0)] = (l.take (j + 1)).map f := by
  rw [List.take_add_one]
  simp only [Option.toList_some, List.map_append, List.map_cons, List.map_nil, List.getD_eq_getElem?_getD, List.getElem?_eq_getElem h, Option.getD_some]
end Sx
