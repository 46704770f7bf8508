/-
  The plain functions, continued: a rectangle filled row by row; one surface painted, as the program and as the reference do it. No program in sight.
-/
import Derived.Test.YtfmjeakcfmmkfaaGreatM8
import Derived.Test.YtfmjeakcfmmkfaaGreatM9
set_option linter.unusedVariables false
namespace Sx
/-- a rectangle is filled up to row j, and in that row up to place i -/
def boxTo (r : DRect) (f old : Int → Int → Int) (j i : Nat) (x y : Int) : Int :=
  if (r.X ≤ x ∧ x < r.X + r.W ∧ r.Y ≤ y) ∧ (y < r.Y + j ∨ (y = r.Y + j ∧ x < r.X + i)) then f x y else old x y
theorem boxTo_zero (r : DRect) (f old : Int → Int → Int) : boxTo r f old 0 0 = old := by
  funext x y; unfold boxTo; rw [if_neg (by omega)]
theorem boxTo_here (r : DRect) (f old : Int → Int → Int) (j i : Nat) : boxTo r f old j i (r.X + i) (r.Y + j) = old (r.X + i) (r.Y + j) := by
  unfold boxTo; rw [if_neg (by omega)]
theorem boxTo_next {r : DRect} {f old : Int → Int → Int} {j i : Nat} (hi : (i : Int) < r.W) : boxTo r f old j (i + 1) = fun x y => if x = r.X + i ∧ y = r.Y + j then f (r.X + i) (r.Y + j) else boxTo r f old j i x y := by
  funext x y
  by_cases e : x = r.X + i ∧ y = r.Y + j
  · obtain ⟨rfl, rfl⟩ := e
    rw [if_pos ⟨rfl, rfl⟩]
    unfold boxTo; rw [if_pos (by omega)]
  · rw [if_neg e]
    unfold boxTo
    by_cases e2 : (r.X ≤ x ∧ x < r.X + r.W ∧ r.Y ≤ y) ∧ (y < r.Y + j ∨ (y = r.Y + j ∧ x < r.X + i))
    · rw [if_pos e2, if_pos (by omega)]
    · rw [if_neg e2, if_neg (by omega)]
theorem boxTo_row {r : DRect} {f old : Int → Int → Int} {j i : Nat} (hi : r.W ≤ (i : Int)) : boxTo r f old j i = boxTo r f old (j + 1) 0 := by
  funext x y
  unfold boxTo
  by_cases e2 : (r.X ≤ x ∧ x < r.X + r.W ∧ r.Y ≤ y) ∧ (y < r.Y + j ∨ (y = r.Y + j ∧ x < r.X + i))
  · rw [if_pos e2, if_pos (by omega)]
  · rw [if_neg e2, if_neg (by omega)]
theorem boxTo_all {r : DRect} {f old : Int → Int → Int} {j : Nat} (hj : (j : Int) = r.H) (x y : Int) : boxTo r f old j 0 x y = if r.X ≤ x ∧ x < r.X + r.W ∧ r.Y ≤ y ∧ y < r.Y + r.H then f x y else old x y := by
  unfold boxTo
  by_cases e : r.X ≤ x ∧ x < r.X + r.W ∧ r.Y ≤ y ∧ y < r.Y + r.H
  · rw [if_pos e, if_pos (by omega)]
  · rw [if_neg e, if_neg (by omega)]
/-- nothing to fill -/
theorem boxTo_none {r : DRect} {f old : Int → Int → Int} {j : Nat} (h : r.W ≤ 0) : boxTo r f old j 0 = old := by
  funext x y; unfold boxTo; rw [if_neg (by omega)]
theorem has_iff {r : DRect} (h : r.ok) (x y : Int) : r.has x y ↔ r.X ≤ x ∧ x < r.X + r.W ∧ r.Y ≤ y ∧ y < r.Y + r.H := by
  unfold DRect.has; constructor
  · rintro ⟨_, h2⟩; omega
  · intro h2; exact ⟨h, by omega⟩
/-- a whole surface over an image of w by h pixels, as the reference paints it -/
theorem box_layer {s : DSurf} {w h : Int} (hw : 1 ≤ w ∧ w ≤ 16) (hh : 1 ≤ h ∧ h ≤ 16) (old : Int → Int → Int) {j : Nat} (hj : (j : Int) = ((surfRect s).inter ⟨0, 0, w, h⟩).H) {x y : Int} (hx : 0 ≤ x ∧ x < w) (hy : 0 ≤ y ∧ y < h) :
    boxTo ((surfRect s).inter ⟨0, 0, w, h⟩) (fun a b => over (pixOf s a b) (old a b)) old j 0 x y = layer s x y (old x y) := by
  have hb : (⟨0, 0, w, h⟩ : DRect).ok := by unfold DRect.ok; dsimp only; omega
  have hi := (DRect.inter_ok (surfRect_ok s) hb).1
  have h1 := inter_has (surfRect_ok s) hb x y
  have h2 := has_iff hi x y
  have h3 := has_iff hb x y
  dsimp only at h3
  rw [boxTo_all hj]
  unfold layer
  by_cases e : (surfRect s).has x y
  · rw [if_pos e, if_pos (h2.1 (h1.2 ⟨e, h3.2 (by omega)⟩))]
  · rw [if_neg e, if_neg (fun hh => e (h1.1 (h2.2 hh)).1)]
/-- a whole surface over an image, as the program paints it -/
theorem one_layer {s : DSurf} (hs : s.ok) (hv : s.Visible = true) {g : Grid} (old : Int → Int → Int) {x y : Int} (hg : inG g x y = true) : oneTo s g old ((surfSize s).1 * (surfSize s).2).toNat x y = layer s x y (old x y) := by
  rw [oneTo_all hs]
  unfold layer
  rw [surfRect_vis hs hv, hg]
  by_cases e : (rawRect s).has x y
  · rw [if_pos ⟨e, rfl⟩, if_pos e]
  · rw [if_neg (fun hh => e hh.1), if_neg e]
theorem hid_layer {s : DSurf} (hv : ¬ s.Visible = true) (x y b : Int) : layer s x y b = b := by
  unfold layer; rw [surfRect_hid hv, if_neg (zero_has x y)]
/-- how many points the program paints of the first k pixels -/
def hitN (s : DSurf) (g : Grid) (w h : Int) : Nat → Int
  | 0 => 0
  | k + 1 => hitN s g w h k + (if ((0 ≤ kx s k ∧ kx s k ≤ w - 1) ∧ (0 ≤ ky s k ∧ ky s k ≤ h - 1)) ∧ inG g (kx s k) (ky s k) = true then 1 else 0)
theorem hitN_bd (s : DSurf) (g : Grid) (w h : Int) : ∀ k : Nat, 0 ≤ hitN s g w h k ∧ hitN s g w h k ≤ k
  | 0 => ⟨Int.le_refl _, Int.le_refl _⟩
  | k + 1 => by have := hitN_bd s g w h k; unfold hitN; split <;> omega
theorem one_miss {s : DSurf} (hs : s.ok) {g : Grid} {old : Int → Int → Int} {w h : Int} (hw : 1 ≤ w) {k : Nat} (hk : k < ((surfSize s).1 * (surfSize s).2).toNat)
    (hn : ¬ (((0 ≤ kx s k ∧ kx s k ≤ w - 1) ∧ (0 ≤ ky s k ∧ ky s k ≤ h - 1)) ∧ inG g (kx s k) (ky s k) = true)) :
    mapTo (oneTo s g old (k + 1)) w (w * h).toNat = mapTo (oneTo s g old k) w (w * h).toNat ∧ hitN s g w h (k + 1) = hitN s g w h k := by
  refine ⟨mapTo_congr hw (fun x y h1 h2 h3 h4 => oneTo_miss hs g old hk x y (fun hh => hn ?_)), by unfold hitN; rw [if_neg hn, Int.add_zero]; cases k <;> rfl⟩
  obtain ⟨rfl, rfl, hg⟩ := hh
  exact ⟨⟨⟨h1, by omega⟩, h3, by omega⟩, hg⟩
theorem one_hit {s : DSurf} (hs : s.ok) {g : Grid} {old : Int → Int → Int} {w h : Int} {k : Nat} (hk : k < ((surfSize s).1 * (surfSize s).2).toNat)
    (hx : 0 ≤ kx s k ∧ kx s k ≤ w - 1) (hy : 0 ≤ ky s k ∧ ky s k ≤ h - 1) (hg : inG g (kx s k) (ky s k) = true) :
    (mapTo (oneTo s g old k) w (w * h).toNat).set (ky s k * w + kx s k).toNat (over ((pictureOf s).data.getD k 0) ((mapTo (oneTo s g old k) w (w * h).toNat).getD (ky s k * w + kx s k).toNat 0)) = mapTo (oneTo s g old (k + 1)) w (w * h).toNat
    ∧ hitN s g w h k + 1 = hitN s g w h (k + 1) := by
  constructor
  · rw [mapTo_at (oneTo s g old k) (w := w) (h := h) ⟨hx.1, by omega⟩ ⟨hy.1, by omega⟩, mapTo_set (oneTo s g old k) (w := w) (h := h) ⟨hx.1, by omega⟩ ⟨hy.1, by omega⟩]
    congr 1
    funext a b
    rw [oneTo_hit hs g old hk hg a b]
  · conv => rhs; unfold hitN
    rw [if_pos ⟨⟨hx, hy⟩, hg⟩]
theorem newPaint (s : DScene) : mapTo (paintTo s 0) s.W (s.W * s.H).toNat = List.replicate (s.W * s.H).toNat s.Back := by
  apply List.ext_getElem?
  intro q
  rw [List.getElem?_replicate]
  unfold mapTo
  rw [List.getElem?_map]
  by_cases e : q < (s.W * s.H).toNat
  · rw [List.getElem?_range e, if_pos e]; rfl
  · rw [List.getElem?_eq_none (by rw [List.length_range]; omega), if_neg e]; rfl
theorem screen_in {w h x y : Int} (hw : 1 ≤ w ∧ w ≤ 16) (hh : 1 ≤ h ∧ h ≤ 16) (hx : 0 ≤ x ∧ x < w) (hy : 0 ≤ y ∧ y < h) : inG (rectG ⟨0, 0, w, h⟩) x y = true := by
  unfold inG rectG DRect.holds DRect.has DRect.ok
  exact decide_eq_true (by dsimp only; omega)
theorem painted_step {s : DScene} (h : s.ok) {k : Nat} (hk : k < s.ss.length) (hv : (s.ss.getD k default).Visible = true) :
    mapTo (oneTo (s.ss.getD k default) (rectG ⟨0, 0, s.W, s.H⟩) (paintTo s k) ((surfSize (s.ss.getD k default)).1 * (surfSize (s.ss.getD k default)).2).toNat) s.W (s.W * s.H).toNat = mapTo (paintTo s (k + 1)) s.W (s.W * s.H).toNat :=
  mapTo_congr h.1.1 (fun x y h1 h2 h3 h4 => by rw [one_layer (getD_ok h hk) hv _ (screen_in h.1 h.2.1 ⟨h1, h2⟩ ⟨h3, h4⟩), paintTo_succ hk])
theorem painted_skip {s : DScene} {k : Nat} (hk : k < s.ss.length) (hv : ¬ (s.ss.getD k default).Visible = true) : paintTo s (k + 1) = paintTo s k := by
  funext x y; rw [paintTo_succ hk, hid_layer hv]
/-- a place of the part of a surface that is on the screen -/
theorem box_at {s : DSurf} (hs : s.ok) {w h : Int} (hw : 1 ≤ w ∧ w ≤ 16) (hh : 1 ≤ h ∧ h ≤ 16) {j i : Nat} (hi : (i : Int) < ((surfRect s).inter ⟨0, 0, w, h⟩).W) (hj : (j : Int) < ((surfRect s).inter ⟨0, 0, w, h⟩).H) :
    (0 ≤ ((surfRect s).inter ⟨0, 0, w, h⟩).X + i ∧ ((surfRect s).inter ⟨0, 0, w, h⟩).X + i < w) ∧ (0 ≤ ((surfRect s).inter ⟨0, 0, w, h⟩).Y + j ∧ ((surfRect s).inter ⟨0, 0, w, h⟩).Y + j < h)
    ∧ (0 ≤ ((surfRect s).inter ⟨0, 0, w, h⟩).X + i - (surfRect s).X ∧ ((surfRect s).inter ⟨0, 0, w, h⟩).X + i - (surfRect s).X < (pictureOf s).W) ∧ (0 ≤ ((surfRect s).inter ⟨0, 0, w, h⟩).Y + j - (surfRect s).Y ∧ ((surfRect s).inter ⟨0, 0, w, h⟩).Y + j - (surfRect s).Y < (pictureOf s).H)
    ∧ (surfRect s).X = s.X ∧ (surfRect s).Y = s.Y := by
  have hb : (⟨0, 0, w, h⟩ : DRect).ok := by unfold DRect.ok; dsimp only; omega
  have ho := (DRect.inter_ok (surfRect_ok s) hb).1
  have h0 : ((surfRect s).inter ⟨0, 0, w, h⟩).has (((surfRect s).inter ⟨0, 0, w, h⟩).X + i) (((surfRect s).inter ⟨0, 0, w, h⟩).Y + j) := ⟨ho, by omega⟩
  have h1 := (inter_has (surfRect_ok s) hb _ _).1 h0
  have h2 := h1.2.2
  dsimp only at h2
  by_cases hv : s.Visible = true
  · rw [surfRect_vis hs hv] at h1 ⊢
    have h3 := h1.1.2
    have hz := surfSize_pic hs
    rw [surfRect_vis hs hv] at h2
    unfold rawRect at h3 ⊢
    dsimp only at h3 ⊢
    unfold rawRect at h2
    rw [hz.1, hz.2]
    omega
  · rw [surfRect_hid hv] at h1; exact absurd h1.1 (zero_has _ _)
theorem pixOf_pix (s : DSurf) (x y : Int) : pixP (pixOf s x y) := by
  by_cases h : s.ok
  · exact (pictureOf_ok h).at_pix _ _
  · unfold pixOf pictureOf
    rw [if_neg h]
    unfold DImg.at DImg.zero pixP
    simp
theorem over_pixP {t b : Int} (ht : pixP t) (hb : pixP b) : pixP (over t b) := by
  have := over_bd ht hb; unfold pixP; omega
theorem boxTo_pix {r : DRect} {f old : Int → Int → Int} (hf : ∀ x y, pixP (f x y)) (ho : ∀ x y, pixP (old x y)) (j i : Nat) (x y : Int) : pixP (boxTo r f old j i x y) := by
  unfold boxTo; split
  · exact hf x y
  · exact ho x y
theorem box_bd {s : DSurf} {w h : Int} (hw : 1 ≤ w ∧ w ≤ 16) (hh : 1 ≤ h ∧ h ≤ 16) : ((-1000 ≤ ((surfRect s).inter ⟨0, 0, w, h⟩).X ∧ ((surfRect s).inter ⟨0, 0, w, h⟩).X ≤ 1000) ∧ (-1000 ≤ ((surfRect s).inter ⟨0, 0, w, h⟩).Y ∧ ((surfRect s).inter ⟨0, 0, w, h⟩).Y ≤ 1000)) ∧ (0 ≤ ((surfRect s).inter ⟨0, 0, w, h⟩).W ∧ ((surfRect s).inter ⟨0, 0, w, h⟩).W ≤ 16) ∧ (0 ≤ ((surfRect s).inter ⟨0, 0, w, h⟩).H ∧ ((surfRect s).inter ⟨0, 0, w, h⟩).H ≤ 16) := by
  have hb : (⟨0, 0, w, h⟩ : DRect).ok := by unfold DRect.ok; dsimp only; omega
  have ho := DRect.inter_ok (surfRect_ok s) hb
  have h1 := ho.1
  have h2 := ho.2.1
  have h3 := ho.2.2.1
  unfold DRect.ok at h1
  dsimp only at h2 h3
  omega
theorem box_step {s : DSurf} (hs : s.ok) {w h : Int} (hw : 1 ≤ w ∧ w ≤ 16) (hh : 1 ≤ h ∧ h ≤ 16) (old : Int → Int → Int) {j i : Nat} (hi : (i : Int) < ((surfRect s).inter ⟨0, 0, w, h⟩).W) (hj : (j : Int) < ((surfRect s).inter ⟨0, 0, w, h⟩).H) :
    (mapTo (boxTo ((surfRect s).inter ⟨0, 0, w, h⟩) (fun a c => over (pixOf s a c) (old a c)) old j i) w (w * h).toNat).set ((((surfRect s).inter ⟨0, 0, w, h⟩).Y + j) * w + (((surfRect s).inter ⟨0, 0, w, h⟩).X + i)).toNat (over ((pictureOf s).data.getD ((((surfRect s).inter ⟨0, 0, w, h⟩).Y + j - (surfRect s).Y) * (pictureOf s).W + (((surfRect s).inter ⟨0, 0, w, h⟩).X + i) - (surfRect s).X).toNat 0) ((mapTo (boxTo ((surfRect s).inter ⟨0, 0, w, h⟩) (fun a c => over (pixOf s a c) (old a c)) old j i) w (w * h).toNat).getD ((((surfRect s).inter ⟨0, 0, w, h⟩).Y + j) * w + (((surfRect s).inter ⟨0, 0, w, h⟩).X + i)).toNat 0))
    = mapTo (boxTo ((surfRect s).inter ⟨0, 0, w, h⟩) (fun a c => over (pixOf s a c) (old a c)) old j (i + 1)) w (w * h).toNat := by
  have hb := box_at hs hw hh hi hj
  rw [mapTo_at _ hb.1 hb.2.1, boxTo_here, mapTo_set _ hb.1 hb.2.1, boxTo_next hi]
  have e : (((surfRect s).inter ⟨0, 0, w, h⟩).Y + j - (surfRect s).Y) * (pictureOf s).W + (((surfRect s).inter ⟨0, 0, w, h⟩).X + i) - (surfRect s).X = (((surfRect s).inter ⟨0, 0, w, h⟩).Y + j - s.Y) * (pictureOf s).W + (((surfRect s).inter ⟨0, 0, w, h⟩).X + i - s.X) := by
    rw [hb.2.2.2.2.1, hb.2.2.2.2.2]; omega
  rw [e]
  rfl
theorem box_done {s : DScene} (h : s.ok) {k : Nat} (hk : k < s.ss.length) {j : Nat} (hj : (j : Int) = ((surfRect (s.ss.getD k default)).inter ⟨0, 0, s.W, s.H⟩).H) :
    mapTo (boxTo ((surfRect (s.ss.getD k default)).inter ⟨0, 0, s.W, s.H⟩) (fun a c => over (pixOf (s.ss.getD k default) a c) (paintTo s k a c)) (paintTo s k) j 0) s.W (s.W * s.H).toNat = mapTo (paintTo s (k + 1)) s.W (s.W * s.H).toNat :=
  mapTo_congr h.1.1 (fun x y h1 h2 h3 h4 => by rw [box_layer h.1 h.2.1 (paintTo s k) hj ⟨h1, h2⟩ ⟨h3, h4⟩, paintTo_succ hk])
end Sx
