/-
  What a law's arguments read as: structs that hold slices.
-/
import Derived.Test.YtfmjeakcfmmkfaaGreatSxL
import Derived.Test.YtfmjeakcfmmkfaaGreatD1
set_option linter.unusedVariables false
namespace Go.Proofs.YtfmjeakcfmmkfaaGreat
open Go Sx Go.ChangeShapes Go.WideShapes Go.ChangeAt Go.RowKit
theorem take_at {α : Type} {l r : List α} {k m : Nat} (h : (l.drop k).take m = r) {j : Nat} {v : α} (hj : r[j]? = some v) : l[k + j]? = some v := by
  have h1 : ((l.drop k).take m)[j]? = some v := by rw [h]; exact hj
  rw [List.getElem?_take] at h1
  split at h1
  · rw [List.getElem?_drop] at h1; exact h1
  · cases h1
theorem open_elems {α : Type} (e : SElem α) {W : World} {v : Value} {n : Nat} {rows : Nat → List Value} (hr : RRow W v e.k n rows) (h : ∀ i, i < n → ∃ a d, rows i = e.cells a d ∧ e.rd W d a) :
    ∃ l, RS e W v l := by
  obtain ⟨l, hl, hlr⟩ := rows_list (fun cs (x : α × Value) => cs = e.cells x.1 x.2 ∧ e.rd W x.2 x.1) (e.dflt, undef) n rows (fun i hi => by obtain ⟨a, d, h1, h2⟩ := h i hi; exact ⟨(a, d), h1, h2⟩)
  have hg : ∀ i, i < n → (l.map (·.1)).getD i e.dflt = (l.getD i (e.dflt, undef)).1 := fun i hi => by
    simp [List.getD_eq_getElem?_getD, List.getElem?_eq_getElem (show i < l.length by omega)]
  refine ⟨l.map (·.1), fun i => (l.getD i (e.dflt, undef)).2, ⟨hr.congr (by simpa using hl) (fun i hi => ?_), fun i hi => ?_⟩⟩
  · rw [hg i hi]; exact (hlr i hi).1.symm
  · have hi' : i < n := by simpa [hl] using hi
    rw [hg i hi']; exact (hlr i hi').2
theorem open_img {W : World} {cs : List Value} (h : SRd Tryz.prog W 76 cs) : ∃ i d, cs = cImg i d ∧ RInts W d i.data := by
  obtain ⟨l, q⟩ := h.struct
  obtain ⟨x0, g0, _⟩ := (SRd.sub q 0 0 3 rfl).int
  obtain ⟨x1, g1, _⟩ := (SRd.sub q 1 1 3 rfl).int
  obtain ⟨d, k, g2, hd⟩ := (SRd.sub q 2 2 31 rfl).ints
  exact ⟨⟨x0, x1, k⟩, d, cells_eq l rfl (fun k hk => match k, hk with | 0, _ => take1 g0 | 1, _ => take1 g1 | 2, _ => take1 g2 | k + 3, hk => absurd hk (by omega)), hd⟩
theorem open_surf {W : World} {cs : List Value} (h : SRd Tryz.prog W 177 cs) : ∃ s d, cs = cSurf s d ∧ RInts W d s.buf.data := by
  obtain ⟨l, q⟩ := h.struct
  obtain ⟨x0, g0, _⟩ := (SRd.sub q 0 0 3 rfl).int
  obtain ⟨x1, g1, _⟩ := (SRd.sub q 1 1 3 rfl).int
  obtain ⟨x2, g2, _⟩ := (SRd.sub q 2 2 3 rfl).int
  obtain ⟨x3, g3, _⟩ := (SRd.sub q 3 3 3 rfl).int
  obtain ⟨x4, g4, _⟩ := (SRd.sub q 4 4 3 rfl).int
  obtain ⟨x5, g5, _⟩ := (SRd.sub q 5 5 3 rfl).int
  obtain ⟨x6, g6, _⟩ := (SRd.sub q 6 6 3 rfl).int
  obtain ⟨x7, g7⟩ := (SRd.sub q 7 7 4 rfl).bool
  obtain ⟨i, d, g8, hd⟩ := open_img (SRd.sub q 8 8 76 rfl)
  exact ⟨⟨x0, x1, x2, x3, x4, x5, x6, x7, i⟩, d, cells_eq l rfl (fun k hk => match k, hk with | 0, _ => take1 g0 | 1, _ => take1 g1 | 2, _ => take1 g2 | 3, _ => take1 g3 | 4, _ => take1 g4 | 5, _ => take1 g5 | 6, _ => take1 g6 | 7, _ => take1 g7 | 8, _ => take_at (j := 0) g8 rfl | 9, _ => take_at (j := 1) g8 rfl | 10, _ => take_at (j := 2) g8 rfl | k + 11, hk => absurd hk (by omega)), hd⟩
theorem open_scene {W : World} {cs : List Value} (h : SRd Tryz.prog W 55 cs) : ∃ s v, cs = [.int .i64 s.W, .int .i64 s.H, .int .i64 s.Back, v] ∧ RS eSurf W v (DScene.ss s) := by
  obtain ⟨l, q⟩ := h.struct
  obtain ⟨x0, g0, _⟩ := (SRd.sub q 0 0 3 rfl).int
  obtain ⟨x1, g1, _⟩ := (SRd.sub q 1 1 3 rfl).int
  obtain ⟨x2, g2, _⟩ := (SRd.sub q 2 2 3 rfl).int
  obtain ⟨v, n, rows, g3, hr, hel⟩ := (SRd.sub q 3 3 53 rfl).slice (by decide)
  obtain ⟨ss, he⟩ := open_elems eSurf hr (fun i hi => open_surf (hel i hi))
  exact ⟨⟨x0, x1, x2, ss⟩, v, cells_eq l rfl (fun k hk => match k, hk with | 0, _ => take1 g0 | 1, _ => take1 g1 | 2, _ => take1 g2 | 3, _ => take1 g3 | k + 4, hk => absurd hk (by omega)), he⟩
end Go.Proofs.YtfmjeakcfmmkfaaGreat
