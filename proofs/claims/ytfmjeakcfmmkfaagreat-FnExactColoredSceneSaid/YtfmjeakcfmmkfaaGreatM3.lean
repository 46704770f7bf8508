/-
  The plain functions, continued: pictures as functions of the place; painting. No program in sight.
-/
import Derived.Test.YtfmjeakcfmmkfaaGreatM2
set_option linter.unusedVariables false
namespace Sx

/-! ### a picture as a function -/
theorem mapTo_get (f : Int → Int → Int) (w : Int) {n q : Nat} (h : q < n) : (mapTo f w n).getD q 0 = f ((q : Int) % w) ((q : Int) / w) := by
  simp [mapTo, List.getD_eq_getElem?_getD, h]
theorem place_lt {w h x y : Int} (hx : 0 ≤ x ∧ x < w) (hy : 0 ≤ y ∧ y < h) : 0 ≤ y * w + x ∧ y * w + x < w * h ∧ (y * w + x).toNat < (w * h).toNat := by
  have h1 : 0 ≤ y * w := Int.mul_nonneg hy.1 (by omega)
  have h2 : (y + 1) * w ≤ h * w := Int.mul_le_mul_of_nonneg_right (by omega) (by omega)
  rw [Int.add_mul, Int.one_mul] at h2
  rw [Int.mul_comm h w] at h2
  omega
theorem mapTo_at (f : Int → Int → Int) {w h x y : Int} (hx : 0 ≤ x ∧ x < w) (hy : 0 ≤ y ∧ y < h) : (mapTo f w (w * h).toNat).getD (y * w + x).toNat 0 = f x y := by
  have h1 := place_lt hx hy
  have h2 := row_mod (w := w) hx hy.1
  rw [mapTo_get f w h1.2.2, Int.toNat_of_nonneg h1.1, h2.1, h2.2]
theorem mod_row {w : Int} {q : Nat} (hw : 1 ≤ w) : 0 ≤ (q : Int) % w ∧ (q : Int) % w < w ∧ 0 ≤ (q : Int) / w ∧ ((q : Int) / w) * w + (q : Int) % w = q := by
  have h1 := Int.emod_nonneg (q : Int) (b := w) (by omega)
  have h2 := Int.emod_lt_of_pos (q : Int) (b := w) (by omega)
  have h3 : 0 ≤ (q : Int) / w := Int.ediv_nonneg (by omega) (by omega)
  have h4 := Int.mul_ediv_add_emod (q : Int) w
  rw [Int.mul_comm] at h4
  exact ⟨h1, h2, h3, h4⟩
theorem div_lt {w h : Int} {q : Nat} (hw : 1 ≤ w) (hq : q < (w * h).toNat) : (q : Int) / w < h := by
  have h1 : (q : Int) < h * w := by rw [Int.mul_comm]; omega
  exact Int.ediv_lt_of_lt_mul (by omega) h1
theorem mapTo_congr {f g : Int → Int → Int} {w h : Int} (hw : 1 ≤ w) (e : ∀ x y, 0 ≤ x → x < w → 0 ≤ y → y < h → f x y = g x y) : mapTo f w (w * h).toNat = mapTo g w (w * h).toNat := by
  unfold mapTo
  apply List.map_congr_left
  intro q hq
  have := mod_row (w := w) (q := q) hw
  exact e _ _ this.1 this.2.1 this.2.2.1 (div_lt hw (List.mem_range.1 hq))
theorem list_eq_getD {l m : List Int} (hl : l.length = m.length) (h : ∀ i, i < l.length → l.getD i 0 = m.getD i 0) : l = m := by
  apply List.ext_getElem?
  intro i
  by_cases hi : i < l.length
  · have := h i hi
    simp only [List.getD_eq_getElem?_getD, List.getElem?_eq_getElem hi, List.getElem?_eq_getElem (show i < m.length by omega), Option.getD_some] at this
    rw [List.getElem?_eq_getElem hi, List.getElem?_eq_getElem (show i < m.length by omega), this]
  · rw [List.getElem?_eq_none (by omega), List.getElem?_eq_none (by omega)]
theorem mapTo_self {w h : Int} {l : List Int} (hw : 1 ≤ w) (hl : l.length = (w * h).toNat) : l = mapTo (fun x y => l.getD (y * w + x).toNat 0) w (w * h).toNat := by
  apply list_eq_getD (by rw [mapTo_length]; exact hl)
  intro q hq
  rw [mapTo_get _ _ (by omega)]
  rw [(mod_row hw).2.2.2]; simp
theorem mapTo_inj {f g : Int → Int → Int} {w h : Int} (hw : 1 ≤ w) (e : mapTo f w (w * h).toNat = mapTo g w (w * h).toNat) : ∀ x y, 0 ≤ x → x < w → 0 ≤ y → y < h → f x y = g x y := fun x y h1 h2 h3 h4 => by
  rw [← mapTo_at f (w := w) (h := h) ⟨h1, h2⟩ ⟨h3, h4⟩, e, mapTo_at g ⟨h1, h2⟩ ⟨h3, h4⟩]
/-- one dot is set -/
theorem mapTo_set (f : Int → Int → Int) {w h x y v : Int} (hx : 0 ≤ x ∧ x < w) (hy : 0 ≤ y ∧ y < h) :
    (mapTo f w (w * h).toNat).set (y * w + x).toNat v = mapTo (fun a b => if a = x ∧ b = y then v else f a b) w (w * h).toNat := by
  apply list_eq_getD (by simp [mapTo_length])
  intro q hq
  rw [List.length_set, mapTo_length] at hq
  have h1 := place_lt hx hy
  have h2 := row_mod (w := w) hx hy.1
  have h3 := mod_row (w := w) (q := q) (by omega)
  rw [mapTo_get _ _ hq, List.getD_eq_getElem?_getD, List.getElem?_set]
  by_cases e : (y * w + x).toNat = q
  · rw [if_pos e, if_pos (by rw [mapTo_length]; omega)]
    have e' : (q : Int) = y * w + x := by omega
    rw [e', h2.1, h2.2, if_pos ⟨rfl, rfl⟩]; rfl
  · rw [if_neg e, if_neg (fun hh => e (by
      have h4 := h3.2.2.2
      rw [hh.1, hh.2] at h4; omega))]
    rw [← List.getD_eq_getElem?_getD, mapTo_get _ _ hq]
/-- a valid image's pixel -/
def DImg.at (i : DImg) (x y : Int) : Int := i.data.getD (y * i.W + x).toNat 0
theorem DImg.ok.lenN {i : DImg} (h : i.ok) : i.data.length = (i.W * i.H).toNat := by have := h.2.2.1; omega
theorem DImg.ok.self {i : DImg} (h : i.ok) : i.data = mapTo i.at i.W (i.W * i.H).toNat := mapTo_self h.1.1 h.lenN
theorem DImg.ok.at_pix {i : DImg} (h : i.ok) (x y : Int) : pixP (i.at x y) := h.pix _
theorem DImg.ext' {i j : DImg} (hi : i.ok) (hj : j.ok) (h1 : i.W = j.W) (h2 : i.H = j.H) (h3 : ∀ x y, 0 ≤ x → x < i.W → 0 ≤ y → y < i.H → i.at x y = j.at x y) : i = j := by
  refine DImg.eq h1 h2 ?_
  rw [hi.self, hj.self, ← h1, ← h2]
  exact mapTo_congr hi.1.1 h3
/-- an image that a function gives -/
def fimg (f : Int → Int → Int) (w h : Int) : DImg := ⟨w, h, mapTo f w (w * h).toNat⟩
theorem fimg_ok {f : Int → Int → Int} {w h : Int} (hw : 1 ≤ w ∧ w ≤ 16) (hh : 1 ≤ h ∧ h ≤ 16) (hf : ∀ x y, 0 ≤ x → x < w → 0 ≤ y → y < h → pixP (f x y)) : (fimg f w h).ok := by
  have hs := side_mul (w := w) (h := h) ⟨hw.1, hw.2, hh.1, hh.2⟩
  refine ⟨hw, hh, by simp only [fimg, mapTo_length]; omega, fun q hq => ?_⟩
  simp only [fimg, mapTo_length] at hq ⊢
  rw [mapTo_get _ _ hq]
  have := mod_row (w := w) (q := q) hw.1
  exact hf _ _ this.1 this.2.1 this.2.2.1 (div_lt hw.1 hq)
theorem fimg_at (f : Int → Int → Int) {w h x y : Int} (hx : 0 ≤ x ∧ x < w) (hy : 0 ≤ y ∧ y < h) : (fimg f w h).at x y = f x y := mapTo_at f hx hy
theorem fimg_congr {f g : Int → Int → Int} {w h : Int} (hw : 1 ≤ w) (e : ∀ x y, 0 ≤ x → x < w → 0 ≤ y → y < h → f x y = g x y) : fimg f w h = fimg g w h := by
  unfold fimg; rw [mapTo_congr hw e]
theorem DImg.ok.fimg {i : DImg} (h : i.ok) : i = Sx.fimg i.at i.W i.H := DImg.eq rfl rfl h.self

/-! ### chapter 11: painting -/
/-- the rectangle of a valid surface, visible or not -/
def rawRect (s : DSurf) : DRect := ⟨s.X, s.Y, (surfSize s).1, (surfSize s).2⟩
theorem surfSize_pic {s : DSurf} (h : s.ok) : (pictureOf s).W = (surfSize s).1 ∧ (pictureOf s).H = (surfSize s).2 := by
  have hb := h.2.2.2.2.2.2
  have ho := h.2.2.2.2.2.1
  have hsz := h.2.2.2.1
  unfold DSurf.sized at hsz
  unfold pictureOf rawPicture surfSize
  rw [if_pos h]
  unfold fadedImg
  by_cases e : s.W ≠ 0
  · rw [if_pos e, if_pos e]
    unfold scaled
    rw [if_pos ⟨oriented_ok hb ho, by omega, by omega⟩]; exact ⟨rfl, rfl⟩
  · rw [if_neg e, if_neg e]
    unfold oriented
    rw [if_pos ⟨hb, ho⟩]; exact ⟨rfl, rfl⟩
theorem surfSize_bd {s : DSurf} (h : s.ok) : (1 ≤ (surfSize s).1 ∧ (surfSize s).1 ≤ 16) ∧ (1 ≤ (surfSize s).2 ∧ (surfSize s).2 ≤ 16) := by
  have h1 := pictureOf_ok h
  have h2 := surfSize_pic h
  rw [← h2.1, ← h2.2]; exact ⟨h1.1, h1.2.1⟩
theorem rawRect_ok {s : DSurf} (h : s.ok) : (rawRect s).ok := by
  have h1 := surfSize_bd h
  have h2 := h.2.1
  have h3 := h.2.2.1
  unfold rawRect DRect.ok; dsimp only; omega
theorem surfRect_vis {s : DSurf} (h : s.ok) (hv : s.Visible = true) : surfRect s = rawRect s := by unfold surfRect; rw [if_pos ⟨h, hv⟩]; rfl
theorem surfRect_hid {s : DSurf} (hv : ¬ s.Visible = true) : surfRect s = DRect.zero := by unfold surfRect; rw [if_neg (fun e => hv e.2)]
theorem surfRect_ok (s : DSurf) : (surfRect s).ok := by
  by_cases h : s.ok ∧ s.Visible = true
  · rw [surfRect_vis h.1 h.2]; exact rawRect_ok h.1
  · unfold surfRect; rw [if_neg h]; unfold DRect.zero DRect.ok; dsimp only; omega
/-- the pixel that a surface has at a point -/
def pixOf (s : DSurf) (x y : Int) : Int := (pictureOf s).at (x - s.X) (y - s.Y)
/-- a surface over what is below it -/
def layer (s : DSurf) (x y b : Int) : Int := if (surfRect s).has x y then over (pixOf s x y) b else b
theorem layer_pix {s : DSurf} {x y b : Int} (h : s.ok) (hb : pixP b) : pixP (layer s x y b) := by
  unfold layer
  split
  · have := over_bd ((pictureOf_ok h).at_pix (x - s.X) (y - s.Y)) hb
    show pixP (over ((pictureOf s).at (x - s.X) (y - s.Y)) b)
    unfold pixP; omega
  · exact hb
def layers (l : List DSurf) (x y b : Int) : Int := l.foldl (fun q s => layer s x y q) b
theorem layers_append (k l : List DSurf) (x y b : Int) : layers (k ++ l) x y b = layers l x y (layers k x y b) := by simp [layers]
theorem layers_cons (s : DSurf) (l : List DSurf) (x y b : Int) : layers (s :: l) x y b = layers l x y (layer s x y b) := rfl
theorem layers_pix : ∀ {l : List DSurf} {x y b : Int}, (∀ s ∈ l, s.ok) → pixP b → pixP (layers l x y b)
  | [], _, _, _, _, h => h
  | s :: l, x, y, b, hl, h => by
    rw [layers_cons]
    exact layers_pix (fun q hq => hl q (List.mem_cons_of_mem _ hq)) (layer_pix (hl s (List.mem_cons_self ..)) h)
theorem surfsOk_mem {l : List DSurf} (h : surfsOk l l.length) : ∀ s ∈ l, s.ok := fun s hs => by
  obtain ⟨i, hi, e⟩ := List.mem_iff_getElem.1 hs
  have := (h i hi).1
  rw [List.getD_eq_getElem?_getD, List.getElem?_eq_getElem hi, Option.getD_some, e] at this
  exact this
def paintF (s : DScene) (x y : Int) : Int := layers s.ss x y s.Back
def painted (s : DScene) : DImg := fimg (paintF s) s.W s.H
def paint (s : DScene) : DImg := if s.ok then painted s else DImg.zero
def paintAt (s : DScene) (x y : Int) : Int := if s.ok ∧ (0 ≤ x ∧ x ≤ s.W - 1) ∧ (0 ≤ y ∧ y ≤ s.H - 1) then paintF s x y else -1
theorem DScene.ok.back {s : DScene} (h : s.ok) : pixP s.Back := h.2.2.1.1
theorem DScene.ok.surf {s : DScene} (h : s.ok) {q : DSurf} (hq : q ∈ s.ss) : q.ok := surfsOk_mem h.2.2.2.2 q hq
theorem paintF_pix {s : DScene} (h : s.ok) (x y : Int) : pixP (paintF s x y) := layers_pix (fun q hq => h.surf hq) h.back
theorem painted_ok {s : DScene} (h : s.ok) : (painted s).ok := fimg_ok h.1 h.2.1 (fun x y _ _ _ _ => paintF_pix h x y)
/-- the first n surfaces -/
def paintTo (s : DScene) (n : Nat) (x y : Int) : Int := layers (s.ss.take n) x y s.Back
theorem paintTo_zero (s : DScene) (x y : Int) : paintTo s 0 x y = s.Back := rfl
theorem paintTo_succ {s : DScene} {n : Nat} (h : n < s.ss.length) (x y : Int) : paintTo s (n + 1) x y = layer (s.ss.getD n default) x y (paintTo s n x y) := by
  unfold paintTo
  rw [List.take_add_one, List.getElem?_eq_getElem h, Option.toList_some, layers_append]
  simp [layers, List.getD_eq_getElem?_getD, List.getElem?_eq_getElem h]
theorem paintTo_all (s : DScene) (x y : Int) : paintTo s s.ss.length x y = paintF s x y := by unfold paintTo paintF; rw [List.take_length]
theorem paintTo_pix {s : DScene} (h : s.ok) (n : Nat) (x y : Int) : pixP (paintTo s n x y) := layers_pix (fun q hq => h.surf (List.mem_of_mem_take hq)) h.back

/-! one surface over an image, within some points -/
/-- what paintOne has made of the pixel at (x, y) after k pixels of the picture -/
def hitTo (s : DSurf) (k : Nat) (x y : Int) : Prop := (rawRect s).has x y ∧ (y - s.Y) * (surfSize s).1 + (x - s.X) < k
instance (s : DSurf) (k : Nat) (x y : Int) : Decidable (hitTo s k x y) := by unfold hitTo; infer_instance
def inG (g : Grid) (x y : Int) : Bool := g y.toNat x.toNat
def oneTo (s : DSurf) (g : Grid) (old : Int → Int → Int) (k : Nat) (x y : Int) : Int := if hitTo s k x y ∧ inG g x y = true then over (pixOf s x y) (old x y) else old x y
/-- the place of the k-th pixel on the screen -/
def kx (s : DSurf) (k : Nat) : Int := s.X + (k : Int) % (surfSize s).1
def ky (s : DSurf) (k : Nat) : Int := s.Y + (k : Int) / (surfSize s).1
theorem hitTo_zero {s : DSurf} (h : s.ok) (x y : Int) : ¬ hitTo s 0 x y := by
  rintro ⟨⟨_, h1⟩, h2⟩
  have hs := surfSize_bd h
  unfold rawRect at h1; dsimp only at h1
  have : 0 ≤ (y - s.Y) * (surfSize s).1 := Int.mul_nonneg (by omega) (by omega)
  omega
theorem hitTo_succ {s : DSurf} (h : s.ok) {k : Nat} (hk : k < ((surfSize s).1 * (surfSize s).2).toNat) (x y : Int) : hitTo s (k + 1) x y ↔ hitTo s k x y ∨ (x = kx s k ∧ y = ky s k) := by
  have hs := surfSize_bd h
  have hm := mod_row (w := (surfSize s).1) (q := k) (by omega)
  have hd := div_lt (w := (surfSize s).1) (h := (surfSize s).2) (q := k) (by omega) hk
  constructor
  · rintro ⟨h1, h2⟩
    by_cases e : (y - s.Y) * (surfSize s).1 + (x - s.X) < k
    · exact .inl ⟨h1, e⟩
    · refine .inr ?_
      have e2 : (y - s.Y) * (surfSize s).1 + (x - s.X) = k := by push_cast at h2; omega
      have h3 := h1.2
      unfold rawRect at h3; dsimp only at h3
      have := row_mod (w := (surfSize s).1) (x := x - s.X) (y := y - s.Y) (by omega) (by omega)
      rw [e2] at this
      unfold kx ky
      omega
  · rintro (⟨h1, h2⟩ | ⟨rfl, rfl⟩)
    · exact ⟨h1, by push_cast; omega⟩
    · refine ⟨⟨rawRect_ok h, ?_⟩, ?_⟩
      · unfold rawRect kx ky; dsimp only; omega
      · unfold kx ky
        rw [show s.Y + (k : Int) / (surfSize s).1 - s.Y = (k : Int) / (surfSize s).1 by omega, show s.X + (k : Int) % (surfSize s).1 - s.X = (k : Int) % (surfSize s).1 by omega]
        push_cast; omega
theorem hitTo_not {s : DSurf} (h : s.ok) {k : Nat} : ¬ hitTo s k (kx s k) (ky s k) := by
  have hs := surfSize_bd h
  have hm := mod_row (w := (surfSize s).1) (q := k) (by omega)
  rintro ⟨_, h2⟩
  unfold kx ky at h2
  rw [show s.Y + (k : Int) / (surfSize s).1 - s.Y = (k : Int) / (surfSize s).1 by omega, show s.X + (k : Int) % (surfSize s).1 - s.X = (k : Int) % (surfSize s).1 by omega] at h2
  omega
theorem hitTo_all {s : DSurf} (h : s.ok) (x y : Int) : hitTo s ((surfSize s).1 * (surfSize s).2).toNat x y ↔ (rawRect s).has x y := by
  have hs := surfSize_bd h
  have hp := side_mul (w := (surfSize s).1) (h := (surfSize s).2) ⟨hs.1.1, hs.1.2, hs.2.1, hs.2.2⟩
  refine ⟨fun hh => hh.1, fun hh => ⟨hh, ?_⟩⟩
  have h3 := hh.2
  unfold rawRect at h3; dsimp only at h3
  have := (place_lt (w := (surfSize s).1) (h := (surfSize s).2) (x := x - s.X) (y := y - s.Y) (by omega) (by omega)).2.1
  omega
theorem oneTo_zero {s : DSurf} (h : s.ok) (g : Grid) (old : Int → Int → Int) (x y : Int) : oneTo s g old 0 x y = old x y := by
  unfold oneTo; rw [if_neg (fun e => hitTo_zero h x y e.1)]
theorem pixOf_k {s : DSurf} (h : s.ok) {k : Nat} (hk : k < ((surfSize s).1 * (surfSize s).2).toNat) : pixOf s (kx s k) (ky s k) = (pictureOf s).data.getD k 0 := by
  have hs := surfSize_bd h
  have hm := mod_row (w := (surfSize s).1) (q := k) (by omega)
  unfold pixOf DImg.at kx ky
  rw [(surfSize_pic h).1]
  rw [show s.Y + (k : Int) / (surfSize s).1 - s.Y = (k : Int) / (surfSize s).1 by omega, show s.X + (k : Int) % (surfSize s).1 - s.X = (k : Int) % (surfSize s).1 by omega, hm.2.2.2]
  simp
theorem oneTo_hit {s : DSurf} (h : s.ok) (g : Grid) (old : Int → Int → Int) {k : Nat} (hk : k < ((surfSize s).1 * (surfSize s).2).toNat) (hg : inG g (kx s k) (ky s k) = true) (x y : Int) :
    oneTo s g old (k + 1) x y = if x = kx s k ∧ y = ky s k then over ((pictureOf s).data.getD k 0) (oneTo s g old k (kx s k) (ky s k)) else oneTo s g old k x y := by
  unfold oneTo
  by_cases e : x = kx s k ∧ y = ky s k
  · rw [if_pos e]
    obtain ⟨rfl, rfl⟩ := e
    rw [if_pos ⟨(hitTo_succ h hk _ _).2 (.inr ⟨rfl, rfl⟩), hg⟩, if_neg (fun hh => hitTo_not h hh.1), pixOf_k h hk]
  · rw [if_neg e]
    have : hitTo s (k + 1) x y ↔ hitTo s k x y := by rw [hitTo_succ h hk]; exact ⟨fun hh => hh.resolve_right e, .inl⟩
    by_cases e2 : hitTo s k x y ∧ inG g x y = true
    · rw [if_pos e2, if_pos ⟨this.2 e2.1, e2.2⟩]
    · rw [if_neg e2, if_neg (fun hh => e2 ⟨this.1 hh.1, hh.2⟩)]
theorem oneTo_miss {s : DSurf} (h : s.ok) (g : Grid) (old : Int → Int → Int) {k : Nat} (hk : k < ((surfSize s).1 * (surfSize s).2).toNat) (x y : Int) (hg : ¬ (x = kx s k ∧ y = ky s k ∧ inG g x y = true)) : oneTo s g old (k + 1) x y = oneTo s g old k x y := by
  unfold oneTo
  have hx := hitTo_succ h hk x y
  by_cases e2 : hitTo s k x y ∧ inG g x y = true
  · rw [if_pos e2, if_pos ⟨hx.2 (.inl e2.1), e2.2⟩]
  · rw [if_neg e2, if_neg (fun hh => by
      rcases hx.1 hh.1 with h1 | ⟨h1, h2⟩
      · exact e2 ⟨h1, hh.2⟩
      · exact hg ⟨h1, h2, hh.2⟩)]
theorem oneTo_all {s : DSurf} (h : s.ok) (g : Grid) (old : Int → Int → Int) (x y : Int) : oneTo s g old ((surfSize s).1 * (surfSize s).2).toNat x y = if (rawRect s).has x y ∧ inG g x y = true then over (pixOf s x y) (old x y) else old x y := by
  unfold oneTo
  by_cases e : (rawRect s).has x y ∧ inG g x y = true
  · rw [if_pos e, if_pos ⟨(hitTo_all h x y).2 e.1, e.2⟩]
  · rw [if_neg e, if_neg (fun hh => e ⟨(hitTo_all h x y).1 hh.1, hh.2⟩)]
theorem oneTo_pix {s : DSurf} (h : s.ok) (g : Grid) {old : Int → Int → Int} (k : Nat) {x y : Int} (ho : pixP (old x y)) : pixP (oneTo s g old k x y) := by
  unfold oneTo
  split
  · have := over_bd ((pictureOf_ok h).at_pix (x - s.X) (y - s.Y)) ho
    show pixP (over ((pictureOf s).at (x - s.X) (y - s.Y)) (old x y))
    unfold pixP; omega
  · exact ho
/-! opaque surfaces hide what is below -/
theorem prt_full {a : Int} (h : byteP a) : prt a 255 = a := by
  unfold prt; rw [if_pos ⟨h, by unfold byteP; omega⟩]; unfold byteP at h; omega
theorem prt_none {a : Int} (h : byteP a) : prt a 0 = 0 := by
  unfold prt; rw [if_pos ⟨h, by unfold byteP; omega⟩]; unfold byteP at h; omega
theorem over_opaque {t b c : Int} (ht : 4278190080 ≤ t ∧ t ≤ 4294967295) (hb : pixP b) (hc : pixP c) : over t b = over t c := by
  have h0 : chan t 0 = 255 := ((opaqueP_iff t).2 ht).2
  have hp : pixP t := ((opaqueP_iff t).2 ht).1
  unfold over
  rw [if_pos ⟨hp, hb⟩, if_pos ⟨hp, hc⟩, h0]
  rw [show (255 - 255 : Int) = 0 by omega]
  rw [prt_none (chan_bd b 1), prt_none (chan_bd b 2), prt_none (chan_bd b 3), prt_none (chan_bd c 1), prt_none (chan_bd c 2), prt_none (chan_bd c 3)]
theorem pixOf_opaque {s : DSurf} (h : isOpaqueS s) {x y : Int} (hh : (surfRect s).has x y) : 4278190080 ≤ pixOf s x y ∧ pixOf s x y ≤ 4294967295 := by
  have hv : s.Visible = true := by
    by_cases e : s.Visible = true
    · exact e
    · rw [surfRect_hid e] at hh; exact absurd hh (zero_has _ _)
  have hok := h.1
  have hs := surfSize_bd hok
  have hp := surfSize_pic hok
  rw [surfRect_vis hok hv] at hh
  have h3 := hh.2
  unfold rawRect at h3; dsimp only at h3
  have hl := (pictureOf_ok hok).lenN
  have hpl := (place_lt (w := (surfSize s).1) (h := (surfSize s).2) (x := x - s.X) (y := y - s.Y) (by omega) (by omega)).2.2
  refine h.2 _ ?_
  rw [hl, hp.1, hp.2]; exact hpl
end Sx
