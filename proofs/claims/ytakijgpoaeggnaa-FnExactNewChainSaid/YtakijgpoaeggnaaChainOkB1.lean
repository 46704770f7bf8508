/-
  Texts that the law stands on, part 1: Mdl, M1, D1, D2, M2, KR, K1, K3, KP, K8, K10, K11, K6, KF, K16, M3, M5.
-/
import Derived.Test.YtakijgpoaeggnaaTypes
import Derived.Test.YtakijgpoaeggnaaSxL
import Derived.Test.YtakijgpoaeggnaaSx
/-
  The plain functions that the program's functions compute. No program in sight.
-/
namespace Sx

theorem mul_bd {a b A B : Int} (ha : 0 ≤ a ∧ a ≤ A) (hb : 0 ≤ b ∧ b ≤ B) : 0 ≤ a * b ∧ a * b ≤ A * B :=
  ⟨Int.mul_nonneg ha.1 hb.1, Int.le_trans (Int.mul_le_mul_of_nonneg_right ha.2 hb.1) (Int.mul_le_mul_of_nonneg_left hb.2 (by omega))⟩
theorem mul_pos' {a b : Int} (ha : 1 ≤ a) (hb : 1 ≤ b) : 1 ≤ a * b := Int.mul_pos ha hb

/-! ### chapter 9: dithering -/
def levelOf (d k : Int) : Int := if 0 ≤ d ∧ d ≤ 262143 ∧ 0 ≤ k ∧ k ≤ 2 then (d / 2 ^ (12 - 6 * k).toNat) % 2 ^ 6 else -1
def threshold (x y : Int) : Int := if x % 2 = 0 then (if y % 2 = 0 then 0 else 3) else (if y % 2 = 0 then 2 else 1)
def ditherLevel (v x y : Int) : Int := if 0 ≤ v ∧ v ≤ 255 then (252 * v + 255 * threshold x y) / 1020 else -1
/-- the i-th number that a law reads off its code -/
def atB (l : List Int) (i : Nat) : Int := if l.length = 0 then 0 else l.getD ((i * 5 + 1) % l.length) 0
def allDots (l : List Int) : Prop := ∀ i : Nat, i < l.length → 0 ≤ l.getD i 0 ∧ l.getD i 0 ≤ 262143
def dotsTo (l : List Int) (j : Nat) : Prop := ∀ i : Nat, i < j → 0 ≤ l.getD i 0 ∧ l.getD i 0 ≤ 262143
theorem dotsTo_zero (l : List Int) : dotsTo l 0 := fun i h => by omega
instance (l : List Int) : Decidable (allDots l) := inferInstanceAs (Decidable (∀ i : Nat, i < l.length → _))
def pictureOk (l : List Int) (w h : Int) : Prop := (1 ≤ w ∧ w ≤ 16) ∧ (1 ≤ h ∧ h ≤ 16) ∧ (l.length : Int) = w * h ∧ allDots l
instance (l : List Int) (w h : Int) : Decidable (pictureOk l w h) := by unfold pictureOk; infer_instance
/-! ### chapter 4: pixels -/
def chan (p k : Int) : Int := (p / 2 ^ (24 - 8 * k).toNat) % 2 ^ 8
def channelOf (p k : Int) : Int := if 0 ≤ p ∧ p ≤ 4294967295 ∧ 0 ≤ k ∧ k ≤ 3 then chan p k else -1
def ditherPixel (p x y : Int) : Int :=
  if 0 ≤ p ∧ p ≤ 4294967295 then ditherLevel (chan p 1) x y * 4096 + ditherLevel (chan p 2) x y * 64 + ditherLevel (chan p 3) x y else -1
/-! ### chapter 16: modes -/
structure DMode where
  Clock : Int
  W : Int
  HFront : Int
  HSync : Int
  HBack : Int
  H : Int
  VFront : Int
  VSync : Int
  VBack : Int
def DMode.ok (m : DMode) : Prop := (1 ≤ m.Clock ∧ m.Clock ≤ 1000000) ∧ (1 ≤ m.W ∧ m.W ≤ 16) ∧ (1 ≤ m.H ∧ m.H ≤ 16) ∧ (1 ≤ m.HSync ∧ m.HSync ≤ 40) ∧ (1 ≤ m.VSync ∧ m.VSync ≤ 40) ∧ (0 ≤ m.HFront ∧ m.HFront ≤ 40) ∧ (0 ≤ m.HBack ∧ m.HBack ≤ 40) ∧ (0 ≤ m.VFront ∧ m.VFront ≤ 40) ∧ (0 ≤ m.VBack ∧ m.VBack ≤ 40)
instance (m : DMode) : Decidable m.ok := by unfold DMode.ok; infer_instance
def blankLines (m : DMode) : Int := if m.ok then m.VFront + m.VSync + m.VBack else 0
def lineTotal (m : DMode) : Int := if m.ok then m.W + m.HFront + m.HSync + m.HBack else 0
def frameTotal (m : DMode) : Int := if m.ok then lineTotal m * (m.H + blankLines m) else 0
def refreshRate (m : DMode) : Int := if m.ok then m.Clock * 1000000 / frameTotal m else 0
/-! ### chapter 15: layouts -/
theorem side_mul {w h : Int} : (1 ≤ w ∧ w ≤ 16 ∧ 1 ≤ h ∧ h ≤ 16) → (1 ≤ w * h ∧ w * h ≤ 256) := fun a => by
  have := mul_bd (a := w) (b := h) (A := 16) (B := 16) (by omega) (by omega)
  have := mul_pos' (a := w) (b := h) (by omega) (by omega)
  omega
def tiles (n : Int) : Int := (n + 3) / 4
def wordCount (w h layout : Int) : Int :=
  if 1 ≤ w ∧ w ≤ 16 ∧ 1 ≤ h ∧ h ≤ 16 then (if layout = 0 then w * h else if layout = 1 then tiles w * 4 * (tiles h * 4) else -1) else -1
def wplace (w layout x y : Int) : Int := if layout = 0 then y * w + x else (y / 4 * tiles w + x / 4) * 16 + y % 4 * 4 + x % 4
def wordPlace (w h layout x y : Int) : Int := if wordCount w h layout < 0 ∨ x < 0 ∨ w ≤ x ∨ y < 0 ∨ h ≤ y then -1 else wplace w layout x y
/-- the levels of the first k places of a square -/
def dsum (v x y : Int) : Nat → Int
  | 0 => 0
  | k + 1 => dsum v x y k + ditherLevel v (x + (k : Int).tmod 2) (y + (k : Int).tdiv 2)
/-- the dots of the first k channels -/
def dpix (p x y : Int) : Nat → Int
  | 0 => 0
  | k + 1 => if k < 3 then dpix p x y k * 64 + ditherLevel (chan p ((k : Int) + 1)) x y else 0
/-! ### chapter 8: color -/
structure DColor where
  mat : List Int
  curve : List Int
deriving DecidableEq
def szI (n : Nat) (left : Int) : Int := if left - n < 0 then -1 else left - n
def inR (lo hi : Int) (l : List Int) : Prop := ∀ i : Nat, i < l.length → lo ≤ l.getD i 0 ∧ l.getD i 0 ≤ hi
instance (lo hi : Int) (l : List Int) : Decidable (inR lo hi l) := inferInstanceAs (Decidable (∀ i : Nat, i < l.length → _))
def inTo (lo hi : Int) (l : List Int) (j : Nat) : Prop := ∀ i : Nat, i < j → lo ≤ l.getD i 0 ∧ l.getD i 0 ≤ hi
theorem inTo_zero (lo hi : Int) (l : List Int) : inTo lo hi l 0 := fun i h => by omega
theorem inTo_next {lo hi : Int} {l : List Int} {j : Nat} (h : inTo lo hi l j) (hj : lo ≤ l.getD j 0 ∧ l.getD j 0 ≤ hi) : inTo lo hi l (j + 1) := fun i hi => by
  by_cases e : i = j
  · subst e; exact hj
  · exact h i (by omega)
def DColor.ok (m : DColor) : Prop := m.mat.length = 9 ∧ m.curve.length = 17 ∧ inR (-1024) 1024 m.mat ∧ inR 0 256 m.curve
instance (m : DColor) : Decidable m.ok := by unfold DColor.ok; infer_instance
end Sx
/-
  The plain functions, continued: color, images, orientations, scaling, surfaces, scenes. No program in sight.
-/
set_option linter.unusedVariables false
namespace Sx

/-! ### chapter 8: color -/
def mixRow (m : DColor) (row : Nat) (r g b : Int) : Int :=
  max 0 (min ((m.mat.getD (3 * row) 0 * r + m.mat.getD (3 * row + 1) 0 * g + m.mat.getD (3 * row + 2) 0 * b + 128) / 256) 255)
def byteP (x : Int) : Prop := 0 ≤ x ∧ x ≤ 255
instance (x : Int) : Decidable (byteP x) := by unfold byteP; infer_instance
def pixP (x : Int) : Prop := 0 ≤ x ∧ x ≤ 4294967295
instance (x : Int) : Decidable (pixP x) := by unfold pixP; infer_instance
def mixChannels (m : DColor) (row r g b : Int) : Int := if m.ok ∧ (0 ≤ row ∧ row ≤ 2) ∧ byteP r ∧ byteP g ∧ byteP b then mixRow m row.toNat r g b else -1
def curveVal (m : DColor) (v : Int) : Int :=
  min 255 (m.curve.getD (v / 16).toNat 0 + ((m.curve.getD ((v / 16).toNat + 1) 0 - m.curve.getD (v / 16).toNat 0) * (v % 16)) / 16)
def curveAt (m : DColor) (v : Int) : Int := if m.ok ∧ byteP v then curveVal m v else -1
def colored (m : DColor) (p : Int) : Int :=
  ((chan p 0 * 256 + curveVal m (mixRow m 0 (chan p 1) (chan p 2) (chan p 3))) * 256 + curveVal m (mixRow m 1 (chan p 1) (chan p 2) (chan p 3))) * 256 + curveVal m (mixRow m 2 (chan p 1) (chan p 2) (chan p 3))
def colorPixel (m : DColor) (p : Int) : Int := if m.ok ∧ pixP p then colored m p else -1
/-- the first k rows -/
def coloredTo (m : DColor) (p : Int) : Nat → Int
  | 0 => chan p 0
  | k + 1 => coloredTo m p k * 256 + curveVal m (mixRow m k (chan p 1) (chan p 2) (chan p 3))
/-! ### chapter 5: images -/
structure DImg where
  W : Int
  H : Int
  data : List Int
deriving DecidableEq
theorem DImg.eq {a b : DImg} (h1 : a.W = b.W) (h2 : a.H = b.H) (h3 : a.data = b.data) : a = b := by cases a; cases b; simp_all
def DImg.zero : DImg := ⟨0, 0, []⟩
def DImg.ok (i : DImg) : Prop := (1 ≤ i.W ∧ i.W ≤ 16) ∧ (1 ≤ i.H ∧ i.H ≤ 16) ∧ (i.data.length : Int) = i.W * i.H ∧ inR 0 4294967295 i.data
instance (i : DImg) : Decidable i.ok := by unfold DImg.ok; infer_instance
theorem DImg.ok.len {i : DImg} (h : i.ok) : 1 ≤ i.data.length ∧ i.data.length ≤ 256 := by
  have := side_mul (w := i.W) (h := i.H) ⟨h.1.1, h.1.2, h.2.1.1, h.2.1.2⟩
  have := h.2.2.1
  omega
def newImage (w h p : Int) : DImg := if (1 ≤ w ∧ w ≤ 16) ∧ (1 ≤ h ∧ h ≤ 16) ∧ pixP p then ⟨w, h, List.replicate (w * h).toNat p⟩ else DImg.zero
def colorImage (m : DColor) (i : DImg) : DImg := if m.ok ∧ i.ok then ⟨i.W, i.H, i.data.map (colored m)⟩ else DImg.zero
def ditherImage (i : DImg) : List Int := if i.ok then (List.range i.data.length).map (fun k : Nat => ditherPixel (i.data.getD k 0) ((k : Int) % i.W) ((k : Int) / i.W)) else []

/-- the first n dots of a picture that a function gives, row by row -/
def mapTo (f : Int → Int → Int) (w : Int) (n : Nat) : List Int := (List.range n).map (fun q : Nat => f ((q : Int) % w) ((q : Int) / w))
/-! ### chapter 6: orientations -/
def orientPt (w h o x y : Int) : Int × Int :=
  let x0 := if 4 ≤ o then w - 1 - x else x
  if o % 4 = 0 then (x0, y) else if o % 4 = 1 then (h - 1 - y, x0) else if o % 4 = 2 then (w - 1 - x0, h - 1 - y) else (y, w - 1 - x0)
def orientOk (w h o : Int) : Prop := (1 ≤ w ∧ w ≤ 16) ∧ (1 ≤ h ∧ h ≤ 16) ∧ (0 ≤ o ∧ o ≤ 7)
instance (w h o : Int) : Decidable (orientOk w h o) := by unfold orientOk; infer_instance
def orientPoint (w h o x y : Int) : Int × Int := if orientOk w h o ∧ (0 ≤ x ∧ x ≤ w - 1) ∧ (0 ≤ y ∧ y ≤ h - 1) then orientPt w h o x y else (-1, -1)
def orientSize (w h o : Int) : Int × Int := if orientOk w h o then (if o % 2 = 1 then (h, w) else (w, h)) else (0, 0)
/-- the picture's dots behind the first k pixels -/
def ofill (i : DImg) (o : Int) : Nat → List Int
  | 0 => List.replicate (i.W * i.H).toNat 0
  | k + 1 =>
    let q := orientPt i.W i.H o ((k : Int) % i.W) ((k : Int) / i.W)
    (ofill i o k).set (q.2 * (if o % 2 = 1 then i.H else i.W) + q.1).toNat (i.data.getD k 0)
theorem ofill_length (i : DImg) (o : Int) : ∀ k, (ofill i o k).length = (i.W * i.H).toNat
  | 0 => by simp [ofill]
  | k + 1 => by simp [ofill, ofill_length i o k]
theorem inR_replicate {lo hi v : Int} (n : Nat) (hv : lo ≤ v ∧ v ≤ hi) : inR lo hi (List.replicate n v) := fun j hj => by
  rw [List.length_replicate] at hj
  rw [List.getD_eq_getElem?_getD, List.getElem?_replicate, if_pos hj]; simpa using hv
def oriented (i : DImg) (o : Int) : DImg :=
  if i.ok ∧ (0 ≤ o ∧ o ≤ 7) then ⟨(orientSize i.W i.H o).1, (orientSize i.W i.H o).2, ofill i o i.data.length⟩ else DImg.zero
/-! what the turns make of a place -/
def oX (w h x y : Int) : Nat → Int
  | 0 => x
  | 1 => h - 1 - y
  | 2 => w - 1 - x
  | _ => y
def oY (w h x y : Int) : Nat → Int
  | 0 => y
  | 1 => x
  | 2 => h - 1 - y
  | _ => w - 1 - x
def oW (w h : Int) : Nat → Int
  | 0 => w
  | 1 => h
  | 2 => w
  | _ => h
/-! ### chapter 7: scaling -/
def scalePoint (f t k : Int) : Int := if (1 ≤ f ∧ f ≤ 16) ∧ (1 ≤ t ∧ t ≤ 16) ∧ (0 ≤ k ∧ k ≤ t - 1) then k * f / t else -1
def scaleAt (i : DImg) (w h x y : Int) : Int := i.data.getD ((y * i.H / h) * i.W + x * i.W / w).toNat 0
def scaled (i : DImg) (w h : Int) : DImg :=
  if i.ok ∧ (1 ≤ w ∧ w ≤ 16) ∧ (1 ≤ h ∧ h ≤ 16) then ⟨w, h, (List.range (w * h).toNat).map (fun q : Nat => scaleAt i w h ((q : Int) % w) ((q : Int) / w))⟩ else DImg.zero
/-! ### chapter 4: pixels -/
def prt (a b : Int) : Int := if byteP a ∧ byteP b then (a * b + 127) / 255 else -1
def fade (p a : Int) : Int := if pixP p ∧ byteP a then prt (chan p 0) a * 16777216 + p % 16777216 else -1
def over (t b : Int) : Int :=
  if pixP t ∧ pixP b then
    ((255 * 256 + (prt (chan t 1) (chan t 0) + prt (chan b 1) (255 - chan t 0))) * 256 + (prt (chan t 2) (chan t 0) + prt (chan b 2) (255 - chan t 0))) * 256 + (prt (chan t 3) (chan t 0) + prt (chan b 3) (255 - chan t 0))
  else -1
/-! ### chapter 2: rectangles -/
structure DRect where
  X : Int
  Y : Int
  W : Int
  H : Int
deriving DecidableEq
def DRect.zero : DRect := ⟨0, 0, 0, 0⟩
def DRect.ok (r : DRect) : Prop := (-1000 ≤ r.X ∧ r.X ≤ 1000) ∧ (-1000 ≤ r.Y ∧ r.Y ≤ 1000) ∧ (0 ≤ r.W ∧ r.W ≤ 1000) ∧ (0 ≤ r.H ∧ r.H ≤ 1000)
instance (r : DRect) : Decidable r.ok := by unfold DRect.ok; infer_instance
def DRect.inter (a b : DRect) : DRect :=
  if a.ok ∧ b.ok then
    (if min (a.X + a.W) (b.X + b.W) - max a.X b.X ≤ 0 ∨ min (a.Y + a.H) (b.Y + b.H) - max a.Y b.Y ≤ 0 then DRect.zero
     else ⟨max a.X b.X, max a.Y b.Y, min (a.X + a.W) (b.X + b.W) - max a.X b.X, min (a.Y + a.H) (b.Y + b.H) - max a.Y b.Y⟩)
  else DRect.zero
theorem DRect.inter_ok {a b : DRect} (ha : a.ok) (hb : b.ok) : (a.inter b).ok ∧ (a.inter b).W ≤ b.W ∧ (a.inter b).H ≤ b.H ∧ (a.inter b).W ≤ a.W ∧ (a.inter b).H ≤ a.H := by
  unfold DRect.inter
  rw [if_pos ⟨ha, hb⟩]
  unfold DRect.ok at *
  split
  · dsimp only [DRect.zero]; omega
  · dsimp only; omega
def DRect.has (r : DRect) (x y : Int) : Prop := r.ok ∧ r.X ≤ x ∧ x < r.X + r.W ∧ r.Y ≤ y ∧ y < r.Y + r.H
instance (r : DRect) (x y : Int) : Decidable (r.has x y) := by unfold DRect.has; infer_instance

/-! ### chapter 10: surfaces, scenes -/
structure DSurf where
  Id : Int
  X : Int
  Y : Int
  W : Int
  H : Int
  Alpha : Int
  Orient : Int
  Visible : Bool
  buf : DImg
deriving DecidableEq
theorem DSurf.eq {a b : DSurf} (h1 : a.Id = b.Id) (h2 : a.X = b.X) (h3 : a.Y = b.Y) (h4 : a.W = b.W) (h5 : a.H = b.H) (h6 : a.Alpha = b.Alpha) (h7 : a.Orient = b.Orient) (h8 : a.Visible = b.Visible) (h9 : a.buf = b.buf) : a = b := by cases a; cases b; simp_all
def DSurf.zero : DSurf := ⟨0, 0, 0, 0, 0, 0, 0, false, DImg.zero⟩
instance : Inhabited DSurf := ⟨DSurf.zero⟩
def DSurf.sized (s : DSurf) : Prop := (1 ≤ s.W ∧ s.W ≤ 16) ∧ (1 ≤ s.H ∧ s.H ≤ 16) ∨ s.W = 0 ∧ s.H = 0
instance (s : DSurf) : Decidable s.sized := by unfold DSurf.sized; infer_instance
def DSurf.ok (s : DSurf) : Prop := (1 ≤ s.Id ∧ s.Id ≤ 99) ∧ (-32 ≤ s.X ∧ s.X ≤ 32) ∧ (-32 ≤ s.Y ∧ s.Y ≤ 32) ∧ s.sized ∧ byteP s.Alpha ∧ (0 ≤ s.Orient ∧ s.Orient ≤ 7) ∧ s.buf.ok
instance (s : DSurf) : Decidable s.ok := by unfold DSurf.ok; infer_instance
structure DScene where
  W : Int
  H : Int
  Back : Int
  ss : List DSurf
deriving DecidableEq
theorem DScene.eq {a b : DScene} (h1 : a.W = b.W) (h2 : a.H = b.H) (h3 : a.Back = b.Back) (h4 : a.ss = b.ss) : a = b := by cases a; cases b; simp_all
def opaqueP (p : Int) : Prop := pixP p ∧ chan p 0 = 255
instance (p : Int) : Decidable (opaqueP p) := by unfold opaqueP; infer_instance
def surfsOk (l : List DSurf) (n : Nat) : Prop := ∀ i, i < n → (l.getD i default).ok ∧ ∀ j, j < i → (l.getD j default).Id ≠ (l.getD i default).Id
instance (l : List DSurf) (n : Nat) : Decidable (surfsOk l n) := inferInstanceAs (Decidable (∀ i, i < n → _))
def DScene.ok (s : DScene) : Prop := (1 ≤ s.W ∧ s.W ≤ 16) ∧ (1 ≤ s.H ∧ s.H ≤ 16) ∧ opaqueP s.Back ∧ s.ss.length ≤ 6 ∧ surfsOk s.ss s.ss.length
instance (s : DScene) : Decidable s.ok := by unfold DScene.ok; infer_instance
/-- the first one with this Id, from place k on -/
def surfIdx (l : List DSurf) (id : Int) : Nat → Nat → Int
  | 0, _ => -1
  | f + 1, k => if k < l.length then (if (l.getD k default).Id = id then (k : Int) else surfIdx l id f (k + 1)) else -1
def surfaceIndex (l : List DSurf) (id : Int) : Int := surfIdx l id l.length 0
theorem surfIdx_found {l : List DSurf} {id : Int} : ∀ (f k j : Nat), k ≤ j → j < l.length → j - k < f → (∀ i, k ≤ i → i < j → (l.getD i default).Id ≠ id) → (l.getD j default).Id = id → surfIdx l id f k = j
  | 0, k, j, _, _, h, _, _ => by omega
  | f + 1, k, j, h1, h2, h3, h4, h5 => by
    unfold surfIdx
    rw [if_pos (by omega)]
    by_cases e : k = j
    · subst e; rw [if_pos h5]
    · rw [if_neg (h4 k (Nat.le_refl _) (by omega))]
      exact surfIdx_found f (k + 1) j (by omega) h2 (by omega) (fun i hi => h4 i (by omega)) h5
theorem surfIdx_none {l : List DSurf} {id : Int} : ∀ (f k : Nat), (∀ i, k ≤ i → i < l.length → (l.getD i default).Id ≠ id) → surfIdx l id f k = -1
  | 0, k, _ => rfl
  | f + 1, k, h => by
    unfold surfIdx
    split
    · rw [if_neg (h k (Nat.le_refl _) (by assumption))]
      exact surfIdx_none f (k + 1) (fun i hi => h i (by omega))
    · rfl
theorem surfaceIndex_found {l : List DSurf} {id : Int} {j : Nat} (hj : j < l.length) (h : ∀ i, i < j → (l.getD i default).Id ≠ id) (he : (l.getD j default).Id = id) : surfaceIndex l id = j :=
  surfIdx_found _ 0 j (by omega) hj (by omega) (fun i _ => h i) he
theorem surfaceIndex_none {l : List DSurf} {id : Int} (h : ∀ i, i < l.length → (l.getD i default).Id ≠ id) : surfaceIndex l id = -1 := surfIdx_none _ 0 (fun i _ => h i)
theorem first_or {p : Nat → Prop} [DecidablePred p] : ∀ n, (∀ i, i < n → ¬ p i) ∨ ∃ j, j < n ∧ p j ∧ ∀ i, i < j → ¬ p i
  | 0 => .inl (fun i hi => by omega)
  | n + 1 => by
    rcases first_or (p := p) n with h | ⟨j, h1, h2, h3⟩
    · by_cases hp : p n
      · exact .inr ⟨n, by omega, hp, h⟩
      · exact .inl (fun i hi => by
          by_cases e : i = n
          · subst e; exact hp
          · exact h i (by omega))
    · exact .inr ⟨j, by omega, h2, h3⟩
theorem surfaceIndex_bd (l : List DSurf) (id : Int) : surfaceIndex l id = -1 ∧ (∀ i, i < l.length → (l.getD i default).Id ≠ id) ∨ ∃ j : Nat, surfaceIndex l id = j ∧ j < l.length ∧ (l.getD j default).Id = id ∧ ∀ i, i < j → (l.getD i default).Id ≠ id := by
  rcases first_or (p := fun i => (l.getD i default).Id = id) l.length with h | ⟨j, h1, h2, h3⟩
  · exact .inl ⟨surfaceIndex_none h, h⟩
  · exact .inr ⟨j, surfaceIndex_found h1 h3 h2, h1, h2, h3⟩
theorem surfaceIndex_self {l : List DSurf} {k : Nat} (hk : k < l.length) : surfaceIndex l (l.getD k default).Id = k ↔ ∀ i, i < k → (l.getD i default).Id ≠ (l.getD k default).Id := by
  constructor
  · intro h
    rcases surfaceIndex_bd l (l.getD k default).Id with ⟨h1, _⟩ | ⟨j, h1, h2, h3, h4⟩
    · omega
    · have : j = k := by omega
      subst this; exact h4
  · intro h; exact surfaceIndex_found hk h rfl
theorem surfsOk_zero (l : List DSurf) : surfsOk l 0 := fun i hi => by omega
theorem surfsOk_next {l : List DSurf} {j : Nat} (h : surfsOk l j) (h1 : (l.getD j default).ok) (h2 : ∀ i, i < j → (l.getD i default).Id ≠ (l.getD j default).Id) : surfsOk l (j + 1) := fun i hi => by
  by_cases e : i = j
  · subst e; exact ⟨h1, h2⟩
  · exact h i (by omega)
def idsTo (l : List DSurf) (j : Nat) : List Int := (List.range j).map (fun i => (l.getD i default).Id)
theorem idsTo_succ (l : List DSurf) (j : Nat) : idsTo l (j + 1) = idsTo l j ++ [(l.getD j default).Id] := by simp [idsTo, List.range_succ]
theorem mem_idsTo {l : List DSurf} {j : Nat} {x : Int} : x ∈ idsTo l j ↔ ∃ i, i < j ∧ (l.getD i default).Id = x := by simp [idsTo]
def fadedImg (i : DImg) (a : Int) : DImg := ⟨i.W, i.H, i.data.map (fun p => fade p a)⟩
def rawPicture (s : DSurf) : DImg := if s.W ≠ 0 then scaled (oriented s.buf s.Orient) s.W s.H else oriented s.buf s.Orient
def pictureOf (s : DSurf) : DImg := if s.ok then fadedImg (rawPicture s) s.Alpha else DImg.zero
def surfSize (s : DSurf) : Int × Int := if s.W ≠ 0 then (s.W, s.H) else orientSize s.buf.W s.buf.H s.Orient
def surfRect (s : DSurf) : DRect := if s.ok ∧ s.Visible = true then ⟨s.X, s.Y, (surfSize s).1, (surfSize s).2⟩ else DRect.zero
def isOpaqueS (s : DSurf) : Prop := s.ok ∧ inR 4278190080 4294967295 (pictureOf s).data
instance (s : DSurf) : Decidable (isOpaqueS s) := by unfold isOpaqueS; infer_instance
/-- the points that painting the first n surfaces costs -/
def costTo (s : DScene) : Nat → Int
  | 0 => s.W * s.H
  | k + 1 => costTo s k + ((surfRect (s.ss.getD k default)).inter ⟨0, 0, s.W, s.H⟩).W * ((surfRect (s.ss.getD k default)).inter ⟨0, 0, s.W, s.H⟩).H
def paintCost (s : DScene) : Int := if s.ok then costTo s s.ss.length else 0
/-! ### sizes, marks -/
theorem szI_or (n : Nat) (left : Int) : szI n left = -1 ∧ left < n ∨ szI n left = left - n ∧ (n : Int) ≤ left := by
  unfold szI; split <;> omega
def sumTo (f : Nat → Nat) : Nat → Nat
  | 0 => 0
  | k + 1 => sumTo f k + f k
theorem sumTo_mono (f : Nat → Nat) {i : Nat} : ∀ {n : Nat}, i ≤ n → sumTo f i ≤ sumTo f n
  | 0, h => by have : i = 0 := by omega
               subst this; exact Nat.le_refl _
  | n + 1, h => by
    by_cases e : i = n + 1
    · subst e; exact Nat.le_refl _
    · have := sumTo_mono f (i := i) (n := n) (by omega)
      simp only [sumTo]; omega
theorem le_sumTo (f : Nat → Nat) {i n : Nat} (h : i < n) : f i ≤ sumTo f n := by
  have := sumTo_mono f (i := i + 1) (n := n) (by omega)
  simp only [sumTo] at this; omega
def surfsLen (l : List DSurf) : Nat := l.length + sumTo (fun i => (l.getD i default).buf.data.length) l.length
/-- k, k + 1, .. -/
def iota (k : Int) (n : Nat) : List Int := (List.range n).map (fun i : Nat => k + (i : Int))
theorem iota_length (k : Int) (n : Nat) : (iota k n).length = n := by simp [iota]
theorem iota_get (k : Int) {i n : Nat} (h : i < n) : (iota k n).getD i 0 = k + i := by
  rw [List.getD_eq_getElem?_getD]; simp [iota, h]
/-- the first j are marked -/
def markTo (l : List Int) (k : Int) (j : Nat) : List Int := iota k j ++ l.drop j
theorem markTo_zero (l : List Int) (k : Int) : markTo l k 0 = l := by simp [markTo, iota]
theorem markTo_all (l : List Int) (k : Int) : markTo l k l.length = iota k l.length := by simp [markTo]
theorem markTo_length (l : List Int) (k : Int) (j : Nat) (h : j ≤ l.length) : (markTo l k j).length = l.length := by
  simp [markTo, iota_length]; omega
theorem markTo_set (l : List Int) (k : Int) (j : Nat) (h : j < l.length) : (markTo l k j).set j (k + j) = markTo l k (j + 1) := by
  unfold markTo
  rw [List.set_append_right _ _ (by rw [iota_length]; omega), iota_length, Nat.sub_self, List.drop_eq_getElem_cons h, List.set_cons_zero]
  simp [iota, List.range_succ]
def heldI (l : List Int) (k : Int) : Int := if l = iota k l.length then k + l.length else -1
theorem heldI_mark (k : Int) (n : Nat) : heldI (iota k n) k = k + n := by simp [heldI, iota_length]
/-- the first j are as marked -/
def heldTo (l : List Int) (k : Int) (j : Nat) : Prop := ∀ i, i < j → l.getD i 0 = k + i
theorem heldTo_all {l : List Int} {k : Int} {j : Nat} (h : heldTo l k j) (hj : l.length ≤ j) : l = iota k l.length := by
  apply List.ext_getElem?
  intro i
  by_cases hi : i < l.length
  · have := h i (by omega)
    rw [List.getD_eq_getElem?_getD] at this
    simp [iota, hi] at this ⊢
    exact this
  · simp [iota, hi]
theorem heldTo_ne {l : List Int} {k : Int} {j : Nat} (hj : j < l.length) (h : l.getD j 0 ≠ k + j) : ¬ l = iota k l.length := fun e => h (by
  conv => lhs; rw [e]
  exact iota_get k hj)
end Sx
/-
  How the program's structs lie in memory.
-/
set_option linter.unusedVariables false
namespace Go.Proofs.Ytakijgpoaeggnaa
open Go Sx
abbrev cImg (i : DImg) (d : Value) : List Value := [.int .i64 i.W, .int .i64 i.H, d]
abbrev vImg (i : DImg) (d : Value) : Value := .agg #[.int .i64 i.W, .int .i64 i.H, d]
def OImg (u : Value) (i : DImg) (H : SPiece) : Prop := ∃ d, u = vImg i d ∧ OInts 3 d i.data H
def eImg : SElem DImg where
  k := 3
  dflt := DImg.zero
  cells := cImg
  klen := fun _ _ => rfl
  rd := fun w d i => RInts w d i.data
  own := fun d i H => OInts 3 d i.data H
  keep := fun h hw => RInts.keep h hw
  reads := fun h hw => OInts.reads h hw
theorem eImg_dflt : eImg.dflt = DImg.zero := rfl
abbrev cRect (r : DRect) : List Value := [.int .i64 r.X, .int .i64 r.Y, .int .i64 r.W, .int .i64 r.H]
abbrev vRect (r : DRect) : Value := .agg #[.int .i64 r.X, .int .i64 r.Y, .int .i64 r.W, .int .i64 r.H]
abbrev vColor (a b : Value) : Value := .agg #[a, b]
abbrev cSurf (s : DSurf) (d : Value) : List Value := [.int .i64 s.Id, .int .i64 s.X, .int .i64 s.Y, .int .i64 s.W, .int .i64 s.H, .int .i64 s.Alpha, .int .i64 s.Orient, .bool s.Visible, .int .i64 s.buf.W, .int .i64 s.buf.H, d]
abbrev vSurf (s : DSurf) (d : Value) : Value := .agg #[.int .i64 s.Id, .int .i64 s.X, .int .i64 s.Y, .int .i64 s.W, .int .i64 s.H, .int .i64 s.Alpha, .int .i64 s.Orient, .bool s.Visible, .int .i64 s.buf.W, .int .i64 s.buf.H, d]
def OSurf (u : Value) (s : DSurf) (H : SPiece) : Prop := ∃ d, u = vSurf s d ∧ OInts 3 d s.buf.data H
def eSurf : SElem DSurf where
  k := 11
  dflt := default
  cells := cSurf
  klen := fun _ _ => rfl
  rd := fun w d s => RInts w d s.buf.data
  own := fun d s H => OInts 3 d s.buf.data H
  keep := fun h hw => RInts.keep h hw
  reads := fun h hw => OInts.reads h hw
theorem eSurf_ones {s : DSurf} {d : Value} (h : d.oneCell' = true) : oneCells (eSurf.cells s d) = true :=
  ones_cons rfl (ones_cons rfl (ones_cons rfl (ones_cons rfl (ones_cons rfl (ones_cons rfl (ones_cons rfl (ones_cons rfl (ones_cons rfl (ones_cons rfl (ones_cons h rfl))))))))))
theorem eSurf_dflt : eSurf.dflt = default := rfl
abbrev vScene (s : DScene) (v : Value) : Value := .agg #[.int .i64 s.W, .int .i64 s.H, .int .i64 s.Back, v]
end Go.Proofs.Ytakijgpoaeggnaa
/-
  What a law's arguments read as: structs that hold slices.
-/
set_option linter.unusedVariables false
namespace Go.Proofs.Ytakijgpoaeggnaa
open Go Sx Go.ChangeShapes Go.WideShapes Go.ChangeAt Go.RowKit
theorem take_at {α : Type} {l r : List α} {k m : Nat} (h : (l.drop k).take m = r) {j : Nat} {v : α} (hj : r[j]? = some v) : l[k + j]? = some v := by
  have h1 : ((l.drop k).take m)[j]? = some v := by rw [h]; exact hj
  rw [List.getElem?_take] at h1
  split at h1
  · rw [List.getElem?_drop] at h1; exact h1
  · cases h1
theorem open_elems {α : Type} (e : SElem α) {W : World} {v : Value} {n : Nat} {rows : Nat → List Value} (hr : RRow W v e.k n rows) (h : ∀ i, i < n → ∃ a d, rows i = e.cells a d ∧ e.rd W d a) :
    ∃ l, RS e W v l := by
  obtain ⟨l, hl, hlr⟩ := rows_list (fun cs (x : α × Value) => cs = e.cells x.1 x.2 ∧ e.rd W x.2 x.1) (e.dflt, undef) n rows (fun i hi => by obtain ⟨a, d, h1, h2⟩ := h i hi; exact ⟨(a, d), h1, h2⟩)
  have hg : ∀ i, i < n → (l.map (·.1)).getD i e.dflt = (l.getD i (e.dflt, undef)).1 := fun i hi => by
    simp [List.getD_eq_getElem?_getD, List.getElem?_eq_getElem (show i < l.length by omega)]
  refine ⟨l.map (·.1), fun i => (l.getD i (e.dflt, undef)).2, ⟨hr.congr (by simpa using hl) (fun i hi => ?_), fun i hi => ?_⟩⟩
  · rw [hg i hi]; exact (hlr i hi).1.symm
  · have hi' : i < n := by simpa [hl] using hi
    rw [hg i hi']; exact (hlr i hi').2
theorem open_img {W : World} {cs : List Value} (h : SRd Try.prog W 48 cs) : ∃ i d, cs = cImg i d ∧ RInts W d i.data := by
  obtain ⟨l, q⟩ := h.struct
  obtain ⟨x0, g0, _⟩ := (SRd.sub q 0 0 3 rfl).int
  obtain ⟨x1, g1, _⟩ := (SRd.sub q 1 1 3 rfl).int
  obtain ⟨d, k, g2, hd⟩ := (SRd.sub q 2 2 37 rfl).ints
  exact ⟨⟨x0, x1, k⟩, d, cells_eq l rfl (fun k hk => match k, hk with | 0, _ => take1 g0 | 1, _ => take1 g1 | 2, _ => take1 g2 | k + 3, hk => absurd hk (by omega)), hd⟩
theorem open_surf {W : World} {cs : List Value} (h : SRd Try.prog W 178 cs) : ∃ s d, cs = cSurf s d ∧ RInts W d s.buf.data := by
  obtain ⟨l, q⟩ := h.struct
  obtain ⟨x0, g0, _⟩ := (SRd.sub q 0 0 3 rfl).int
  obtain ⟨x1, g1, _⟩ := (SRd.sub q 1 1 3 rfl).int
  obtain ⟨x2, g2, _⟩ := (SRd.sub q 2 2 3 rfl).int
  obtain ⟨x3, g3, _⟩ := (SRd.sub q 3 3 3 rfl).int
  obtain ⟨x4, g4, _⟩ := (SRd.sub q 4 4 3 rfl).int
  obtain ⟨x5, g5, _⟩ := (SRd.sub q 5 5 3 rfl).int
  obtain ⟨x6, g6, _⟩ := (SRd.sub q 6 6 3 rfl).int
  obtain ⟨x7, g7⟩ := (SRd.sub q 7 7 4 rfl).bool
  obtain ⟨i, d, g8, hd⟩ := open_img (SRd.sub q 8 8 48 rfl)
  exact ⟨⟨x0, x1, x2, x3, x4, x5, x6, x7, i⟩, d, cells_eq l rfl (fun k hk => match k, hk with | 0, _ => take1 g0 | 1, _ => take1 g1 | 2, _ => take1 g2 | 3, _ => take1 g3 | 4, _ => take1 g4 | 5, _ => take1 g5 | 6, _ => take1 g6 | 7, _ => take1 g7 | 8, _ => take_at (j := 0) g8 rfl | 9, _ => take_at (j := 1) g8 rfl | 10, _ => take_at (j := 2) g8 rfl | k + 11, hk => absurd hk (by omega)), hd⟩
theorem open_scene {W : World} {cs : List Value} (h : SRd Try.prog W 82 cs) : ∃ s v, cs = [.int .i64 s.W, .int .i64 s.H, .int .i64 s.Back, v] ∧ RS eSurf W v (DScene.ss s) := by
  obtain ⟨l, q⟩ := h.struct
  obtain ⟨x0, g0, _⟩ := (SRd.sub q 0 0 3 rfl).int
  obtain ⟨x1, g1, _⟩ := (SRd.sub q 1 1 3 rfl).int
  obtain ⟨x2, g2, _⟩ := (SRd.sub q 2 2 3 rfl).int
  obtain ⟨v, n, rows, g3, hr, hel⟩ := (SRd.sub q 3 3 80 rfl).slice (by decide)
  obtain ⟨ss, he⟩ := open_elems eSurf hr (fun i hi => open_surf (hel i hi))
  exact ⟨⟨x0, x1, x2, ss⟩, v, cells_eq l rfl (fun k hk => match k, hk with | 0, _ => take1 g0 | 1, _ => take1 g1 | 2, _ => take1 g2 | 3, _ => take1 g3 | k + 4, hk => absurd hk (by omega)), he⟩
end Go.Proofs.Ytakijgpoaeggnaa
/-
  The plain functions, continued: regions. A set of points of the screen, its rectangles, its area. No program in sight.
-/
set_option linter.unusedVariables false
namespace Sx

/-- which points belong to a set: row, column -/
abbrev Grid := Nat → Nat → Bool
def Grid.eqv (g h : Grid) : Prop := ∀ y x, y < 16 → x < 16 → g y x = h y x
theorem Grid.eqv.refl (g : Grid) : g.eqv g := fun _ _ _ _ => rfl
theorem Grid.eqv.trans {g h k : Grid} (e : g.eqv h) (f : h.eqv k) : g.eqv k := fun y x hy hx => (e y x hy hx).trans (f y x hy hx)
/-- how many places from x on, below 16, are true -/
def rnlF (f : Nat → Bool) : Nat → Nat → Nat
  | 0, _ => 0
  | k + 1, x => if x < 16 ∧ f x = true then rnlF f k (x + 1) + 1 else 0
def rnl (f : Nat → Bool) (x : Nat) : Nat := rnlF f (16 - x) x
theorem rnlF_is (f : Nat → Bool) : ∀ (k x : Nat), 16 - x ≤ k → (∀ i, x ≤ i → i < x + rnlF f k x → i < 16 ∧ f i = true) ∧ ¬ (x + rnlF f k x < 16 ∧ f (x + rnlF f k x) = true)
  | 0, x, hk => ⟨fun i h1 h2 => by simp only [rnlF] at h2; omega, fun h => by simp only [rnlF] at h; omega⟩
  | k + 1, x, hk => by
    unfold rnlF
    by_cases h : x < 16 ∧ f x = true
    · rw [if_pos h]
      have ih := rnlF_is f k (x + 1) (by omega)
      refine ⟨fun i h1 h2 => ?_, fun h2 => ih.2 ?_⟩
      · by_cases e : i = x
        · subst e; exact h
        · exact ih.1 i (by omega) (by omega)
      · rw [show x + 1 + rnlF f k (x + 1) = x + (rnlF f k (x + 1) + 1) by omega]; exact h2
    · rw [if_neg h]
      exact ⟨fun i h1 h2 => by omega, h⟩
theorem rnl_in {f : Nat → Bool} {x i : Nat} (h1 : x ≤ i) (h2 : i < x + rnl f x) : i < 16 ∧ f i = true := (rnlF_is f _ x (Nat.le_refl _)).1 i h1 h2
theorem rnl_end {f : Nat → Bool} {x : Nat} : ¬ (x + rnl f x < 16 ∧ f (x + rnl f x) = true) := (rnlF_is f _ x (Nat.le_refl _)).2
theorem rnl_eq {f : Nat → Bool} {x w : Nat} (h1 : ∀ i, x ≤ i → i < x + w → i < 16 ∧ f i = true) (h2 : ¬ (x + w < 16 ∧ f (x + w) = true)) : rnl f x = w := by
  rcases Nat.lt_trichotomy (rnl f x) w with h | h | h
  · exact absurd (h1 (x + rnl f x) (by omega) (by omega)) rnl_end
  · exact h
  · exact absurd (rnl_in (f := f) (x := x) (i := x + w) (by omega) (by omega)) h2
/-- the rectangles of a row, from x on -/
def rowF (f : Nat → Bool) (y h : Int) : Nat → Nat → List DRect
  | 0, _ => []
  | k + 1, x => if x < 16 then (if rnl f x = 0 then [] else [⟨x, y, rnl f x, h⟩]) ++ rowF f y h k (x + rnl f x + 1) else []
def rowR (f : Nat → Bool) (y h : Int) (x : Nat) : List DRect := rowF f y h (16 - x) x
theorem rowF_fuel (f : Nat → Bool) (y h : Int) : ∀ (k j x : Nat), 16 - x ≤ k → 16 - x ≤ j → rowF f y h k x = rowF f y h j x
  | 0, 0, x, _, _ => rfl
  | 0, j + 1, x, hk, _ => by unfold rowF; rw [if_neg (by omega)]
  | k + 1, 0, x, _, hj => by unfold rowF; rw [if_neg (by omega)]
  | k + 1, j + 1, x, hk, hj => by
    unfold rowF
    by_cases hx : x < 16
    · rw [if_pos hx, if_pos hx, rowF_fuel f y h k j _ (by omega) (by omega)]
    · rw [if_neg hx, if_neg hx]
theorem rowR_done {f : Nat → Bool} {y h : Int} {x : Nat} (hx : 16 ≤ x) : rowR f y h x = [] := by
  unfold rowR; rw [show 16 - x = 0 by omega]; rfl
theorem rowR_step {f : Nat → Bool} {y h : Int} {x : Nat} (hx : x < 16) : rowR f y h x = (if rnl f x = 0 then [] else [⟨x, y, rnl f x, h⟩]) ++ rowR f y h (x + rnl f x + 1) := by
  unfold rowR
  rw [show 16 - x = (15 - x) + 1 by omega]
  conv => lhs; unfold rowF
  rw [if_pos hx, rowF_fuel f y h (15 - x) (16 - (x + rnl f x + 1)) _ (by omega) (by omega)]
/-- rows z and y have the same points -/
def sameRow (g : Grid) (y z : Nat) : Bool := (List.range 16).all (fun x => g z x == g y x)
theorem sameRow_iff {g : Grid} {y z : Nat} : sameRow g y z = true ↔ ∀ x, x < 16 → g z x = g y x := by simp [sameRow]
/-- how many rows from y on are like it -/
def hgt (g : Grid) (y : Nat) : Nat := 1 + rnl (sameRow g y) (y + 1)
def canonF (g : Grid) : Nat → Nat → List DRect
  | 0, _ => []
  | k + 1, y => if y < 16 then rowR (g y) y (hgt g y) 0 ++ canonF g k (y + hgt g y) else []
def canonR (g : Grid) (y : Nat) : List DRect := canonF g (16 - y) y
/-- the canonical form of a set -/
def canon (g : Grid) : List DRect := canonR g 0
theorem canonF_fuel (g : Grid) : ∀ (k j y : Nat), 16 - y ≤ k → 16 - y ≤ j → canonF g k y = canonF g j y
  | 0, 0, x, _, _ => rfl
  | 0, j + 1, y, hk, _ => by unfold canonF; rw [if_neg (by omega)]
  | k + 1, 0, y, _, hj => by unfold canonF; rw [if_neg (by omega)]
  | k + 1, j + 1, y, hk, hj => by
    have := (show 1 ≤ hgt g y by unfold hgt; omega)
    unfold canonF
    by_cases hy : y < 16
    · rw [if_pos hy, if_pos hy, canonF_fuel g k j _ (by omega) (by omega)]
    · rw [if_neg hy, if_neg hy]
theorem hgt_pos (g : Grid) (y : Nat) : 1 ≤ hgt g y := by unfold hgt; omega
theorem canonR_done {g : Grid} {y : Nat} (hy : 16 ≤ y) : canonR g y = [] := by unfold canonR; rw [show 16 - y = 0 by omega]; rfl
theorem canonR_step {g : Grid} {y : Nat} (hy : y < 16) : canonR g y = rowR (g y) y (hgt g y) 0 ++ canonR g (y + hgt g y) := by
  have := hgt_pos g y
  unfold canonR
  rw [show 16 - y = (15 - y) + 1 by omega]
  conv => lhs; unfold canonF
  rw [if_pos hy, canonF_fuel g (15 - y) (16 - (y + hgt g y)) _ (by omega) (by omega)]
/-! the points of rectangles -/
def DRect.holds (r : DRect) (y x : Nat) : Bool := decide (r.has x y)
def points (l : List DRect) : Grid := fun y x => l.any (fun r => r.holds y x)
theorem points_nil (y x : Nat) : points [] y x = false := rfl
theorem points_cons (r : DRect) (l : List DRect) (y x : Nat) : points (r :: l) y x = (r.holds y x || points l y x) := by simp [points]
theorem points_append (k l : List DRect) (y x : Nat) : points (k ++ l) y x = (points k y x || points l y x) := by simp [points]
/-- a rectangle of the screen with points -/
def DRect.inScreen (r : DRect) : Prop := 0 ≤ r.X ∧ 0 ≤ r.Y ∧ 1 ≤ r.W ∧ 1 ≤ r.H ∧ r.X + r.W ≤ 16 ∧ r.Y + r.H ≤ 16
/-- a region in canonical form -/
def regionOk (l : List DRect) : Prop := canon (points l) = l
instance (l : List DRect) : Decidable (regionOk l) := by unfold regionOk; infer_instance
/-! how many rectangles, how many points -/
def area : List DRect → Int
  | [] => 0
  | r :: l => r.W * r.H + area l
/-- how many places below n are true -/
def cnt (f : Nat → Bool) : Nat → Nat
  | 0 => 0
  | n + 1 => cnt f n + (if f n = true then 1 else 0)
theorem cnt_congr {f g : Nat → Bool} : ∀ n, (∀ i, i < n → f i = g i) → cnt f n = cnt g n
  | 0, _ => rfl
  | n + 1, h => by simp only [cnt]; rw [cnt_congr n (fun i hi => h i (by omega)), h n (by omega)]
theorem cnt_le (f : Nat → Bool) : ∀ n, cnt f n ≤ n
  | 0 => Nat.le_refl _
  | n + 1 => by have := cnt_le f n; simp only [cnt]; split <;> omega
def sumN (f : Nat → Nat) : Nat → Nat
  | 0 => 0
  | n + 1 => sumN f n + f n
/-- how many points a set has -/
def card (g : Grid) : Nat := sumN (fun y => cnt (g y) 16) 16
/-! sets of sets -/
def Grid.or (g h : Grid) : Grid := fun y x => g y x || h y x
def Grid.and (g h : Grid) : Grid := fun y x => g y x && h y x
def Grid.without (g h : Grid) : Grid := fun y x => g y x && !h y x
def Grid.none : Grid := fun _ _ => false
theorem Grid.or_congr {g g' h h' : Grid} (e : g.eqv g') (f : h.eqv h') : (g.or h).eqv (g'.or h') := fun y x hy hx => by simp only [Grid.or]; rw [e y x hy hx, f y x hy hx]
/-- the points of a rectangle -/
def rectG (r : DRect) : Grid := fun y x => r.holds y x
theorem points_one (r : DRect) : points [r] = rectG r := by
  funext y x; rw [points_cons, points_nil, Bool.or_false]; rfl
theorem points_congr_append {k l : List DRect} : points (k ++ l) = (points k).or (points l) := by funext y x; exact points_append k l y x
def DRect.screen : DRect := ⟨0, 0, 16, 16⟩
theorem screen_ok : DRect.screen.ok := by unfold DRect.screen DRect.ok; dsimp only; omega
theorem inter_has {a b : DRect} (ha : a.ok) (hb : b.ok) (x y : Int) : (a.inter b).has x y ↔ a.has x y ∧ b.has x y := by
  have h1 := (DRect.inter_ok ha hb).1
  unfold DRect.has
  constructor
  · rintro ⟨_, h⟩
    unfold DRect.inter at h
    rw [if_pos ⟨ha, hb⟩] at h
    unfold DRect.ok at *
    split at h
    · dsimp only [DRect.zero] at h; omega
    · dsimp only at h; omega
  · rintro ⟨⟨_, h2⟩, ⟨_, h3⟩⟩
    refine ⟨h1, ?_⟩
    unfold DRect.inter
    rw [if_pos ⟨ha, hb⟩]
    split
    · omega
    · dsimp only; omega
theorem inter_not {a b : DRect} (h : ¬ a.ok ∨ ¬ b.ok) : a.inter b = DRect.zero := by
  unfold DRect.inter
  rw [if_neg (by rcases h with h | h; exact fun e => h e.1; exact fun e => h e.2)]
theorem zero_has (x y : Int) : ¬ DRect.zero.has x y := by unfold DRect.has DRect.zero; dsimp only; omega
theorem inter_holds {a b : DRect} (hb : b.ok) (y x : Nat) : (a.inter b).holds y x = (a.holds y x && b.holds y x) := by
  unfold DRect.holds
  by_cases ha : a.ok
  · rw [← Bool.decide_and]; exact decide_eq_decide.2 (inter_has ha hb x y)
  · rw [inter_not (.inl ha), decide_eq_false (zero_has _ _), decide_eq_false (fun h => ha h.1), Bool.false_and]
theorem inter_screen {r : DRect} : (rectG (r.inter DRect.screen)).eqv (rectG r) := fun y x hy hx => by
  show (r.inter DRect.screen).holds y x = r.holds y x
  rw [inter_holds screen_ok]
  have : DRect.screen.holds y x = true := by unfold DRect.holds DRect.has; exact decide_eq_true ⟨screen_ok, by unfold DRect.screen; dsimp only; omega⟩
  rw [this, Bool.and_true]

/-! a row as a number -/
def bits (f : Nat → Bool) : Nat → Nat
  | 0 => 0
  | n + 1 => bits f n + (if f n = true then 2 ^ n else 0)
theorem bits_lt (f : Nat → Bool) : ∀ n, bits f n < 2 ^ n
  | 0 => by simp [bits]
  | n + 1 => by have := bits_lt f n; simp only [bits]; rw [Nat.pow_succ]; split <;> omega
theorem bits_testBit (f : Nat → Bool) : ∀ n i, (bits f n).testBit i = (decide (i < n) && f i)
  | 0, i => by simp [bits]
  | n + 1, i => by
    have hl := bits_lt f n
    have ih := bits_testBit f n i
    simp only [bits]
    cases hf : f n
    · simp only [Bool.false_eq_true, if_false, Nat.add_zero, ih]
      by_cases e : i = n
      · subst e; simp [hf]
      · by_cases h : i < n
        · simp [h, show i < n + 1 by omega]
        · simp [h, show ¬ i < n + 1 by omega]
    · simp only [if_true]
      rw [Nat.add_comm]
      by_cases e : i = n
      · subst e
        rw [Nat.testBit_two_pow_add_eq]
        rw [Nat.testBit_lt_two_pow hl]
        simp [hf]
      · by_cases h : i < n
        · rw [Nat.testBit_two_pow_add_gt h, ih]
          simp [h, show i < n + 1 by omega]
        · have : 2 ^ n + bits f n < 2 ^ i := by
            have h2 : 2 ^ (n + 1) ≤ 2 ^ i := Nat.pow_le_pow_right (by omega) (by omega)
            rw [Nat.pow_succ] at h2; omega
          rw [Nat.testBit_lt_two_pow this]
          simp [show ¬ i < n + 1 by omega]
theorem bits_or (f g : Nat → Bool) (n : Nat) : bits f n ||| bits g n = bits (fun i => f i || g i) n := by
  apply Nat.eq_of_testBit_eq; intro i
  rw [Nat.testBit_or, bits_testBit, bits_testBit, bits_testBit]; cases decide (i < n) <;> simp
theorem bits_congr {f g : Nat → Bool} : ∀ n, (∀ i, i < n → f i = g i) → bits f n = bits g n
  | 0, _ => rfl
  | n + 1, h => by simp only [bits]; rw [bits_congr n (fun i hi => h i (by omega)), h n (by omega)]
theorem bits_inj {f g : Nat → Bool} {n : Nat} : bits f n = bits g n ↔ ∀ i, i < n → f i = g i := by
  refine ⟨fun h i hi => ?_, bits_congr n⟩
  have h1 := bits_testBit f n i
  rw [h, bits_testBit] at h1
  simpa [hi] using h1.symm
theorem bits_span {X W n : Nat} (h : X + W ≤ n) : (2 ^ W - 1) * 2 ^ X = bits (fun i => decide (X ≤ i ∧ i < X + W)) n := by
  apply Nat.eq_of_testBit_eq; intro i
  rw [bits_testBit, ← Nat.shiftLeft_eq, Nat.testBit_shiftLeft, Nat.testBit_two_pow_sub_one]
  by_cases h1 : X ≤ i <;> by_cases h2 : i < X + W
  · simp [h1, h2, show i - X < W by omega, show i < n by omega]
  · simp [h1, h2, show ¬ i - X < W by omega]
  · simp [h1]
  · simp [h1]
theorem bits_and_bit (f : Nat → Bool) {n x : Nat} (hx : x < n) : bits f n &&& 2 ^ x = if f x = true then 2 ^ x else 0 := by
  apply Nat.eq_of_testBit_eq; intro i
  rw [Nat.testBit_and, bits_testBit, Nat.testBit_two_pow]
  by_cases e : x = i
  · subst e
    cases f x <;> simp [hx, Nat.testBit_two_pow_self]
  · cases f x <;> simp [e]
end Sx
/-
  Slices of plain cells: rectangles, truth values. Regions.
-/
set_option linter.unusedVariables false
namespace Go.Proofs.Ytakijgpoaeggnaa
open Go Sx
attribute [local irreducible] Exit.then Exit.inBlock bodyPost
section
variable {α : Type} {c : α → List Value} {k : Nat} {T : TypeId}
def OVs (c : α → List Value) (k : Nat) (T : TypeId) (v : Value) (l : List α) (H : SPiece) : Prop := OVec k T v l.length (l.flatMap c) H
def RVs (c : α → List Value) (k : Nat) (d : α) (w : World) (v : Value) (l : List α) : Prop := RRow w v k l.length (fun i => c (l.getD i d))
theorem flatMap_range (d : α) : ∀ l : List α, l.flatMap c = (List.range l.length).flatMap (fun i => c (l.getD i d))
  | [] => rfl
  | x :: l => by
    have := flatMap_range d l
    rw [List.length_cons, List.range_succ_eq_map, List.flatMap_cons, List.flatMap_cons, List.flatMap_map, this]
    rfl
theorem OVs.reads (d : α) (hc : ∀ a, (c a).length = k) {v : Value} {l : List α} {H : SPiece} (h : OVs c k T v l H) {w : World} (hw : Holds w H) : RVs c k d w v l :=
  OVec.reads h hw (Nat.le_trans (OVec.le h) (by decide)) (fun i hi => hc _) (flatMap_range d l)
theorem OVs.form {v : Value} {l : List α} {H : SPiece} (h : OVs c k T v l H) : ∃ a q, v = .slice a l.length q := by
  have key : ∀ {n : Nat} {xs : List Value}, OVec k T v n xs H → ∃ a q, v = .slice a n q := by
    intro n xs hh
    cases hh with
    | nil => exact ⟨_, _, rfl⟩
    | blk b n cap xs r h1 h2 h3 h4 => exact ⟨_, _, rfl⟩
  exact key h
theorem OVs.len {v : Value} {l : List α} {H : SPiece} (h : OVs c k T v l H) : l.length ≤ maxLen := OVec.le h
theorem RVs.keep {d : α} {w w' : World} {v : Value} {l : List α} (h : RVs c k d w v l) (hw : ∀ a u, w.cell? a = some u → w'.cell? a = some u) : RVs c k d w' v l := RRow.keep h hw
theorem RVs.form {d : α} {w : World} {v : Value} {l : List α} (h : RVs c k d w v l) : ∃ a q, v = .slice a l.length q := by
  obtain ⟨a, q, e, _⟩ := RRow.form h; exact ⟨a, q, e⟩
theorem OVs.nil : OVs c k T (.slice none 0 0) ([] : List α) [] := OVec.nil
theorem flatMap_length (hc : ∀ a, (c a).length = k) : ∀ l : List α, (l.flatMap c).length = l.length * k
  | [] => by simp
  | x :: l => by rw [List.flatMap_cons, List.length_append, hc, flatMap_length hc l, List.length_cons, Nat.succ_mul]; omega
theorem OVs.whole (hc : ∀ a, (c a).length = k) (b : Nat) (l : List α) (hl : l.length ≤ maxLen) : OVs c k T (.slice (some ⟨b, 0, none⟩) l.length l.length) l [(b, srow (l.flatMap c) T)] := by
  have := OVec.blk (k := k) (T := T) b l.length l.length (l.flatMap c) [] (flatMap_length hc l) (by simpa using flatMap_length hc l) (Nat.le_refl _) hl
  simpa [OVs] using this
end
section
variable {P : Program} {n : Nat} {lo : SMut} {s : World} {ops : Array Oper} {Q : Exit → Act → World → Prop} {E : SEnv} {L : SHeap} {d : Nat} {ty : TypeId} {pos : String} {after : Array Edge} {rest : List Oper}
/-- append of a literal of one element -/
theorem s_appendVs (i i2 : Nat) {α : Type} {c : α → List Value} {kk : Nat} {t e : TypeId} {x y : Operand} {v z : Value} {by_ b2 : Nat} {l : List α} {a : α} {H : SPiece} {X U : TypeId} [hu : SUnd P t (.slice e)] [hinf : SInf P e z kk by_]
    (hx : sval E x = some v) (hy : sval E y = some (.slice (some ⟨b2, 0, none⟩) 1 1)) (hv : OVs c kk e v l H) (hL : getL L i = some H) (hL2 : getL L i2 = some [(b2, srow (c a) U)])
    (hc : (c a).length = kk) (h1 : oneCells (c a) = true) (hz : z.cells.size = kk) (hk0 : 0 < kk) (hb : l.length + 1 ≤ 100000000) (hby : by_ ≤ 1024) (hd : Nat.blt d n = true)
    (k : ∀ v' H', OVs c kk e v' (l ++ [a]) H' → WPL P n lo s ops Q rest ((d, v') :: E) (setL L i H')) :
    WPL P n lo s ops Q (⟨some d, .call { callee := .builtin .append, args := #[x, y], argTypes := #[t, t] }, X, pos, after, none⟩ :: rest) E L := by
  have hmul : (l.length + 1) * by_ ≤ 100000000 * 1024 := Nat.mul_le_mul hb hby
  refine s_append i (ys := c a) (m := 1) hx hy hv hL hz hk0 (by omega) h1 (fun w hw => ⟨_, _, rfl, fun j q hj => ?_⟩) (by omega) (by omega) hd (fun v' H' h => k v' H' ?_)
  · rw [Addr.add_lit, Nat.zero_add]; exact hw.captured hL2 j q hj
  · have := h
    unfold OVs
    rw [List.flatMap_append, List.length_append]
    simpa using this
end
/-! ### rectangles -/
abbrev ORects (v : Value) (l : List DRect) (H : SPiece) : Prop := OVs cRect 4 73 v l H
abbrev RRects (w : World) (v : Value) (l : List DRect) : Prop := RVs cRect 4 DRect.zero w v l
theorem ORects.rd {v : Value} {l : List DRect} {H : SPiece} (h : ORects v l H) {w : World} (hw : Holds w H) : RRects w v l := OVs.reads (c := cRect) (k := 4) DRect.zero (fun _ => rfl) h hw
abbrev vReg (v : Value) : Value := .agg #[v]
def OReg (u : Value) (l : List DRect) (H : SPiece) : Prop := ∃ v, u = vReg v ∧ ORects v l H
/-! ### truth values by places of the screen -/
def gvals (g : Grid) : List Bool := (List.range 256).map (fun q => g (q / 16) (q % 16))
theorem gvals_length (g : Grid) : (gvals g).length = 256 := by simp [gvals]
theorem gvals_get (g : Grid) {q : Nat} (h : q < 256) : (gvals g).getD q false = g (q / 16) (q % 16) := by
  simp [gvals, List.getD_eq_getElem?_getD, h]
theorem gvals_at (g : Grid) {y x : Nat} (hy : y < 16) (hx : x < 16) : (gvals g).getD (y * 16 + x) false = g y x := by
  rw [gvals_get g (by omega), show (y * 16 + x) / 16 = y by omega, show (y * 16 + x) % 16 = x by omega]
theorem gvals_congr {g h : Grid} (e : g.eqv h) : gvals g = gvals h := by
  apply List.map_congr_left
  intro q hq
  rw [List.mem_range] at hq
  exact e _ _ (by omega) (by omega)
def Grid.put (g : Grid) (y x : Nat) (v : Bool) : Grid := fun b a => if b = y ∧ a = x then v else g b a
theorem gvals_set (g : Grid) {y x : Nat} (hy : y < 16) (hx : x < 16) (v : Bool) : (gvals g).set (y * 16 + x) v = gvals (Grid.put g y x v) := by
  apply List.ext_getElem?
  intro q
  rw [List.getElem?_set]
  by_cases hq : q < 256
  · have e1 : (gvals g)[q]? = some (g (q / 16) (q % 16)) := by simp [gvals, hq]
    have e2 : (gvals (Grid.put g y x v))[q]? = some (Grid.put g y x v (q / 16) (q % 16)) := by simp [gvals, hq]
    rw [e1, e2, gvals_length]
    unfold Grid.put
    by_cases e : y * 16 + x = q
    · rw [if_pos e, if_pos (by omega), if_pos (by omega)]
    · rw [if_neg e, if_neg (by omega)]
  · rw [if_neg (by omega), List.getElem?_eq_none (by rw [gvals_length]; omega), List.getElem?_eq_none (by rw [gvals_length]; omega)]
abbrev cBool (v : Bool) : List Value := [.bool v]
abbrev OBools (v : Value) (l : List Bool) (H : SPiece) : Prop := OVs cBool 1 4 v l H
abbrev RBools (w : World) (v : Value) (l : List Bool) : Prop := RVs cBool 1 false w v l
theorem OBools.rd {v : Value} {l : List Bool} {H : SPiece} (h : OBools v l H) {w : World} (hw : Holds w H) : RBools w v l := OVs.reads (c := cBool) (k := 1) false (fun _ => rfl) h hw
def bvals (l : List Bool) : List Value := l.map Value.bool
theorem flatMap_cBool : ∀ l : List Bool, l.flatMap cBool = l.map Value.bool
  | [] => rfl
  | x :: l => by rw [List.flatMap_cons, flatMap_cBool l]; rfl
theorem OBools.full (b : Nat) {m : Nat} (q : Bool) (hm : m ≤ maxLen) : OBools (.slice (some ⟨b, 0, none⟩) m m) (List.replicate m q) [(b, srow (List.replicate m (.bool q)) 4)] := by
  have := OVs.whole (c := cBool) (k := 1) (T := 4) (fun _ => rfl) b (List.replicate m q) (by simpa using hm)
  rw [flatMap_cBool] at this
  simpa using this
section
variable {P : Program} {n : Nat} {lo : SMut} {s : World} {ops : Array Oper} {Q : Exit → Act → World → Prop} {E : SEnv} {L : SHeap} {d : Nat} {ty : TypeId} {pos : String} {after : Array Edge} {rest : List Oper}
/-- a store into an own slice of truth values -/
theorem s_setB (i : Nat) {T : TypeId} {x y : Operand} {v z : Value} {l : List Bool} {H : SPiece} {q : Bool} {k by_ : Nat} [hi : SInf P T z 1 by_]
    (hx : sval E x = some (.pointer (some ⟨(baseOf v).1, (baseOf v).2 + k * 1, none⟩))) (hy : sval E y = some (.bool q)) (hv : OBools v l H) (hL : getL L i = some H) (hk : k < l.length)
    (c : ∀ H', OBools v (l.set k q) H' → WPL P n lo s ops Q rest E (setL L i H')) : WPL P n lo s ops Q (⟨none, .store T x y, ty, pos, after, none⟩ :: rest) E L := by
  unfold OBools OVs at hv
  rw [flatMap_cBool] at hv
  generalize hxs : l.map Value.bool = xs at hv
  generalize hnn : l.length = nn at hv
  cases hv with
  | nil => omega
  | blk b n' cap xs r h1 h2 h3 h4 =>
    subst hxs
    subst hnn
    simp only [baseOf, Nat.zero_add, Nat.mul_one] at hx
    refine s_setR i hx hy hL rfl (by rw [List.length_append, List.length_map]; omega) ?_
    rw [List.set_append_left _ _ (by rw [List.length_map]; exact hk), ← List.map_set]
    refine c _ ?_
    have := OVec.blk (k := 1) (T := 4) b l.length cap ((l.set k q).map Value.bool) r (by rw [List.length_map, List.length_set]; omega) (by rw [List.length_append, List.length_map, List.length_set]; rw [List.length_append, List.length_map] at h2; omega) h3 h4
    unfold OBools OVs
    rw [flatMap_cBool, List.length_set]; exact this
end
end Go.Proofs.Ytakijgpoaeggnaa
/-
  Contracts of the functions that only compute with numbers.
-/
set_option linter.unusedVariables false
namespace Go.Proofs.Ytakijgpoaeggnaa
open Go Sx
attribute [local irreducible] Exit.then Exit.inBlock bodyPost

theorem c_l01In (x lo hi : Int) (w : World) : SYields Try.prog 120 #[.int .i64 x, .int .i64 lo, .int .i64 hi] (.bool (decide (lo ≤ x ∧ x ≤ hi))) w := by
  (first | apply SYields.mk | apply SYieldsF.mk | skip); refine s_enter Try.func120 rfl Try.ntmps120 rfl ?_
  repeat' (first | exact rfl | (apply kO; (first | exact ov_pure rfl | (apply kOBin; (first | exact aBin)) | (apply kOCall; (first | (apply kCallB; (first | exact aBlt | exact aLenR)))) | (apply kOLoad; (first | exact aLdF | exact aLdR)) | exact ov_fieldAddr rfl | (apply kOIdx; (first | exact aIdx)) | exact aRest | exact aNew | exact (ov_field1 (ft := 37) rfl rfl rfl rfl))) | (refine kN ?_; (first | (refine kStore ?_; (first | refine s_store1 _ rfl rfl gpA rfl (by rfl) ?_ | refine s_storeS _ rfl rfl gpA rfl rfl (by rfl) ?_ | refine s_storeS _ rfl rfl gpA rfl (ones_img oiA) (by rfl) ?_)) | refine s_boxS rfl rfl (fun b hb => ?_) | refine s_allocS rfl (fun b hb => ?_) | refine s_box1 rfl rfl rfl (fun b hb => ?_) | refine s_alloc1 rfl rfl (fun b hb => ?_) | refine s_buildSlice0 rfl (fun b hb => ?_) | refine s_buildSlice rfl rfl rfl rfl rfl (fun b hb => ?_) | apply s_step)) | (refine kG ?_; (first | refine s_gyes rfl rfl rfl ?_ | refine s_gno rfl rfl rfl rfl rfl ?_ | ((first | refine s_split_d rfl rfl (fun h => ?_) (fun h => ?_) | refine s_split_n rfl rfl (fun h => ?_) (fun h => ?_)) <;> (try (first | contradiction | (exfalso; omega)))) | refine s_split_nb rfl rfl (fun h => ?_) (fun h => ?_) | refine s_split rfl rfl (fun h => ?_) (fun h => ?_))) | refine l_then ?_ | (refine kC ?_; (first | refine c_seq ?_ | refine c_regionN rfl ?_ | refine c_ret ?_ | (refine kCond ?_; (first | refine c_cond_t rfl ?_ | refine c_cond_f rfl ?_ | ((first | refine c_cond_d rfl (fun h => ?_) (fun h => ?_) | refine c_cond_n rfl (fun h => ?_) (fun h => ?_)) <;> (try (first | contradiction | (exfalso; omega)))) | refine c_cond_nb rfl (fun h => ?_) (fun h => ?_) | refine c_cond rfl (fun h => ?_) (fun h => ?_))) | refine c_block ?_ | refine c_skip ?_ | refine c_exit ?_ | refine c_regionQN rfl rfl (by decide +kernel) ?_)) | apply s_stepQ | (refine kQG ?_; (first | refine s_gyesQ rfl rfl rfl ?_ | refine s_gnoQ rfl rfl rfl rfl rfl ?_ | ((first | refine s_splitQ_d rfl rfl (fun h => ?_) (fun h => ?_) | refine s_splitQ_n rfl rfl (fun h => ?_) (fun h => ?_)) <;> (try (first | contradiction | (exfalso; omega)))) | refine s_splitQ_nb rfl rfl (fun h => ?_) (fun h => ?_) | refine s_splitQ rfl rfl (fun h => ?_) (fun h => ?_))) | refine lQ_then ?_ | refine lQ_ends ?_ | (refine kE ?_; (first | refine e_then_r ?_ | refine e_block_r ?_ | refine e_then_n ?_ | refine e_then_x ?_ | refine e_block_n ?_ | refine e_block_x ?_ | refine e_block_y rfl ?_)) | refine l_ends ?_)
  all_goals refine s_leave1 rfl rfl (fun w hw => ⟨?_, hw.below⟩)
  all_goals first | rfl | exact ret_true (by omega) | exact ret_false (by omega) | exact ret_dec (by omega)
theorem c_within (x lo hi : Int) (w : World) : SYields Try.prog 110 #[.int .i64 x, .int .i64 lo, .int .i64 hi] (.bool (decide (lo ≤ x ∧ x ≤ hi))) w := by
  (first | apply SYields.mk | apply SYieldsF.mk | skip); refine s_enter Try.func110 rfl Try.ntmps110 rfl ?_
  repeat' (first | exact rfl | (apply kO; (first | exact ov_pure rfl | (apply kOBin; (first | exact aBin)) | (apply kOCall; (first | (apply kCallB; (first | exact aBlt | exact aLenR)))) | (apply kOLoad; (first | exact aLdF | exact aLdR)) | exact ov_fieldAddr rfl | (apply kOIdx; (first | exact aIdx)) | exact aRest | exact aNew | exact (ov_field1 (ft := 37) rfl rfl rfl rfl))) | (refine kN ?_; (first | (refine kStore ?_; (first | refine s_store1 _ rfl rfl gpA rfl (by rfl) ?_ | refine s_storeS _ rfl rfl gpA rfl rfl (by rfl) ?_ | refine s_storeS _ rfl rfl gpA rfl (ones_img oiA) (by rfl) ?_)) | refine s_boxS rfl rfl (fun b hb => ?_) | refine s_allocS rfl (fun b hb => ?_) | refine s_box1 rfl rfl rfl (fun b hb => ?_) | refine s_alloc1 rfl rfl (fun b hb => ?_) | refine s_buildSlice0 rfl (fun b hb => ?_) | refine s_buildSlice rfl rfl rfl rfl rfl (fun b hb => ?_) | apply s_step)) | (refine kG ?_; (first | refine s_gyes rfl rfl rfl ?_ | refine s_gno rfl rfl rfl rfl rfl ?_ | ((first | refine s_split_d rfl rfl (fun h => ?_) (fun h => ?_) | refine s_split_n rfl rfl (fun h => ?_) (fun h => ?_)) <;> (try (first | contradiction | (exfalso; omega)))) | refine s_split_nb rfl rfl (fun h => ?_) (fun h => ?_) | refine s_split rfl rfl (fun h => ?_) (fun h => ?_))) | refine l_then ?_ | (refine kC ?_; (first | refine c_seq ?_ | refine c_regionN rfl ?_ | refine c_ret ?_ | (refine kCond ?_; (first | refine c_cond_t rfl ?_ | refine c_cond_f rfl ?_ | ((first | refine c_cond_d rfl (fun h => ?_) (fun h => ?_) | refine c_cond_n rfl (fun h => ?_) (fun h => ?_)) <;> (try (first | contradiction | (exfalso; omega)))) | refine c_cond_nb rfl (fun h => ?_) (fun h => ?_) | refine c_cond rfl (fun h => ?_) (fun h => ?_))) | refine c_block ?_ | refine c_skip ?_ | refine c_exit ?_ | refine c_regionQN rfl rfl (by decide +kernel) ?_)) | apply s_stepQ | (refine kQG ?_; (first | refine s_gyesQ rfl rfl rfl ?_ | refine s_gnoQ rfl rfl rfl rfl rfl ?_ | ((first | refine s_splitQ_d rfl rfl (fun h => ?_) (fun h => ?_) | refine s_splitQ_n rfl rfl (fun h => ?_) (fun h => ?_)) <;> (try (first | contradiction | (exfalso; omega)))) | refine s_splitQ_nb rfl rfl (fun h => ?_) (fun h => ?_) | refine s_splitQ rfl rfl (fun h => ?_) (fun h => ?_))) | refine lQ_then ?_ | refine lQ_ends ?_ | (refine kE ?_; (first | refine e_then_r ?_ | refine e_block_r ?_ | refine e_then_n ?_ | refine e_then_x ?_ | refine e_block_n ?_ | refine e_block_x ?_ | refine e_block_y rfl ?_)) | refine l_ends ?_)
  all_goals refine s_leave1 rfl rfl (fun w hw => ⟨?_, hw.below⟩)
  all_goals first | rfl | exact ret_true (by omega) | exact ret_false (by omega) | exact ret_dec (by omega)
theorem c_isSide (x : Int) (w : World) : SYields Try.prog 102 #[.int .i64 x] (.bool (decide (1 ≤ x ∧ x ≤ 16))) w := by
  (first | apply SYields.mk | apply SYieldsF.mk | skip); refine s_enter Try.func102 rfl Try.ntmps102 rfl ?_
  repeat' (first | exact rfl | (apply kO; (first | exact ov_pure rfl | (apply kOBin; (first | exact aBin)) | (apply kOCall; (first | (apply kCallF; (first | exact (ov_call rfl (fun w hw => c_within _ _ _ w)))) | (apply kCallB; (first | exact aBlt | exact aLenR)))) | (apply kOLoad; (first | exact aLdF | exact aLdR)) | exact ov_fieldAddr rfl | (apply kOIdx; (first | exact aIdx)) | exact aRest | exact aNew | exact (ov_field1 (ft := 37) rfl rfl rfl rfl))) | (refine kN ?_; (first | (refine kStore ?_; (first | refine s_store1 _ rfl rfl gpA rfl (by rfl) ?_ | refine s_storeS _ rfl rfl gpA rfl rfl (by rfl) ?_ | refine s_storeS _ rfl rfl gpA rfl (ones_img oiA) (by rfl) ?_)) | refine s_boxS rfl rfl (fun b hb => ?_) | refine s_allocS rfl (fun b hb => ?_) | refine s_box1 rfl rfl rfl (fun b hb => ?_) | refine s_alloc1 rfl rfl (fun b hb => ?_) | refine s_buildSlice0 rfl (fun b hb => ?_) | refine s_buildSlice rfl rfl rfl rfl rfl (fun b hb => ?_) | apply s_step)) | (refine kG ?_; (first | refine s_gyes rfl rfl rfl ?_ | refine s_gno rfl rfl rfl rfl rfl ?_ | ((first | refine s_split_d rfl rfl (fun h => ?_) (fun h => ?_) | refine s_split_n rfl rfl (fun h => ?_) (fun h => ?_)) <;> (try (first | contradiction | (exfalso; omega)))) | refine s_split_nb rfl rfl (fun h => ?_) (fun h => ?_) | refine s_split rfl rfl (fun h => ?_) (fun h => ?_))) | refine l_then ?_ | (refine kC ?_; (first | refine c_seq ?_ | refine c_regionN rfl ?_ | refine c_ret ?_ | (refine kCond ?_; (first | refine c_cond_t rfl ?_ | refine c_cond_f rfl ?_ | ((first | refine c_cond_d rfl (fun h => ?_) (fun h => ?_) | refine c_cond_n rfl (fun h => ?_) (fun h => ?_)) <;> (try (first | contradiction | (exfalso; omega)))) | refine c_cond_nb rfl (fun h => ?_) (fun h => ?_) | refine c_cond rfl (fun h => ?_) (fun h => ?_))) | refine c_block ?_ | refine c_skip ?_ | refine c_exit ?_ | refine c_regionQN rfl rfl (by decide +kernel) ?_)) | apply s_stepQ | (refine kQG ?_; (first | refine s_gyesQ rfl rfl rfl ?_ | refine s_gnoQ rfl rfl rfl rfl rfl ?_ | ((first | refine s_splitQ_d rfl rfl (fun h => ?_) (fun h => ?_) | refine s_splitQ_n rfl rfl (fun h => ?_) (fun h => ?_)) <;> (try (first | contradiction | (exfalso; omega)))) | refine s_splitQ_nb rfl rfl (fun h => ?_) (fun h => ?_) | refine s_splitQ rfl rfl (fun h => ?_) (fun h => ?_))) | refine lQ_then ?_ | refine lQ_ends ?_ | (refine kE ?_; (first | refine e_then_r ?_ | refine e_block_r ?_ | refine e_then_n ?_ | refine e_then_x ?_ | refine e_block_n ?_ | refine e_block_x ?_ | refine e_block_y rfl ?_)) | refine l_ends ?_)
  all_goals refine s_leave1 rfl rfl (fun w hw => ⟨?_, hw.below⟩)
  all_goals first | rfl | exact ret_true (by omega) | exact ret_false (by omega) | exact ret_dec (by omega)
theorem c_isPixel (x : Int) (w : World) : SYields Try.prog 155 #[.int .i64 x] (.bool (decide (0 ≤ x ∧ x ≤ 4294967295))) w := by
  (first | apply SYields.mk | apply SYieldsF.mk | skip); refine s_enter Try.func155 rfl Try.ntmps155 rfl ?_
  repeat' (first | exact rfl | (apply kO; (first | exact ov_pure rfl | (apply kOBin; (first | exact aBin)) | (apply kOCall; (first | (apply kCallF; (first | exact (ov_call rfl (fun w hw => c_within _ _ _ w)))) | (apply kCallB; (first | exact aBlt | exact aLenR)))) | (apply kOLoad; (first | exact aLdF | exact aLdR)) | exact ov_fieldAddr rfl | (apply kOIdx; (first | exact aIdx)) | exact aRest | exact aNew | exact (ov_field1 (ft := 37) rfl rfl rfl rfl))) | (refine kN ?_; (first | (refine kStore ?_; (first | refine s_store1 _ rfl rfl gpA rfl (by rfl) ?_ | refine s_storeS _ rfl rfl gpA rfl rfl (by rfl) ?_ | refine s_storeS _ rfl rfl gpA rfl (ones_img oiA) (by rfl) ?_)) | refine s_boxS rfl rfl (fun b hb => ?_) | refine s_allocS rfl (fun b hb => ?_) | refine s_box1 rfl rfl rfl (fun b hb => ?_) | refine s_alloc1 rfl rfl (fun b hb => ?_) | refine s_buildSlice0 rfl (fun b hb => ?_) | refine s_buildSlice rfl rfl rfl rfl rfl (fun b hb => ?_) | apply s_step)) | (refine kG ?_; (first | refine s_gyes rfl rfl rfl ?_ | refine s_gno rfl rfl rfl rfl rfl ?_ | ((first | refine s_split_d rfl rfl (fun h => ?_) (fun h => ?_) | refine s_split_n rfl rfl (fun h => ?_) (fun h => ?_)) <;> (try (first | contradiction | (exfalso; omega)))) | refine s_split_nb rfl rfl (fun h => ?_) (fun h => ?_) | refine s_split rfl rfl (fun h => ?_) (fun h => ?_))) | refine l_then ?_ | (refine kC ?_; (first | refine c_seq ?_ | refine c_regionN rfl ?_ | refine c_ret ?_ | (refine kCond ?_; (first | refine c_cond_t rfl ?_ | refine c_cond_f rfl ?_ | ((first | refine c_cond_d rfl (fun h => ?_) (fun h => ?_) | refine c_cond_n rfl (fun h => ?_) (fun h => ?_)) <;> (try (first | contradiction | (exfalso; omega)))) | refine c_cond_nb rfl (fun h => ?_) (fun h => ?_) | refine c_cond rfl (fun h => ?_) (fun h => ?_))) | refine c_block ?_ | refine c_skip ?_ | refine c_exit ?_ | refine c_regionQN rfl rfl (by decide +kernel) ?_)) | apply s_stepQ | (refine kQG ?_; (first | refine s_gyesQ rfl rfl rfl ?_ | refine s_gnoQ rfl rfl rfl rfl rfl ?_ | ((first | refine s_splitQ_d rfl rfl (fun h => ?_) (fun h => ?_) | refine s_splitQ_n rfl rfl (fun h => ?_) (fun h => ?_)) <;> (try (first | contradiction | (exfalso; omega)))) | refine s_splitQ_nb rfl rfl (fun h => ?_) (fun h => ?_) | refine s_splitQ rfl rfl (fun h => ?_) (fun h => ?_))) | refine lQ_then ?_ | refine lQ_ends ?_ | (refine kE ?_; (first | refine e_then_r ?_ | refine e_block_r ?_ | refine e_then_n ?_ | refine e_then_x ?_ | refine e_block_n ?_ | refine e_block_x ?_ | refine e_block_y rfl ?_)) | refine l_ends ?_)
  all_goals refine s_leave1 rfl rfl (fun w hw => ⟨?_, hw.below⟩)
  all_goals first | rfl | exact ret_true (by omega) | exact ret_false (by omega) | exact ret_dec (by omega)
theorem c_l04Pixel (x : Int) (w : World) : SYields Try.prog 114 #[.int .i64 x] (.bool (decide (0 ≤ x ∧ x ≤ 4294967295))) w := by
  (first | apply SYields.mk | apply SYieldsF.mk | skip); refine s_enter Try.func114 rfl Try.ntmps114 rfl ?_
  repeat' (first | exact rfl | (apply kO; (first | exact ov_pure rfl | (apply kOBin; (first | exact aBin)) | (apply kOCall; (first | (apply kCallF; (first | exact (ov_call rfl (fun w hw => c_l01In _ _ _ w)))) | (apply kCallB; (first | exact aBlt | exact aLenR)))) | (apply kOLoad; (first | exact aLdF | exact aLdR)) | exact ov_fieldAddr rfl | (apply kOIdx; (first | exact aIdx)) | exact aRest | exact aNew | exact (ov_field1 (ft := 37) rfl rfl rfl rfl))) | (refine kN ?_; (first | (refine kStore ?_; (first | refine s_store1 _ rfl rfl gpA rfl (by rfl) ?_ | refine s_storeS _ rfl rfl gpA rfl rfl (by rfl) ?_ | refine s_storeS _ rfl rfl gpA rfl (ones_img oiA) (by rfl) ?_)) | refine s_boxS rfl rfl (fun b hb => ?_) | refine s_allocS rfl (fun b hb => ?_) | refine s_box1 rfl rfl rfl (fun b hb => ?_) | refine s_alloc1 rfl rfl (fun b hb => ?_) | refine s_buildSlice0 rfl (fun b hb => ?_) | refine s_buildSlice rfl rfl rfl rfl rfl (fun b hb => ?_) | apply s_step)) | (refine kG ?_; (first | refine s_gyes rfl rfl rfl ?_ | refine s_gno rfl rfl rfl rfl rfl ?_ | ((first | refine s_split_d rfl rfl (fun h => ?_) (fun h => ?_) | refine s_split_n rfl rfl (fun h => ?_) (fun h => ?_)) <;> (try (first | contradiction | (exfalso; omega)))) | refine s_split_nb rfl rfl (fun h => ?_) (fun h => ?_) | refine s_split rfl rfl (fun h => ?_) (fun h => ?_))) | refine l_then ?_ | (refine kC ?_; (first | refine c_seq ?_ | refine c_regionN rfl ?_ | refine c_ret ?_ | (refine kCond ?_; (first | refine c_cond_t rfl ?_ | refine c_cond_f rfl ?_ | ((first | refine c_cond_d rfl (fun h => ?_) (fun h => ?_) | refine c_cond_n rfl (fun h => ?_) (fun h => ?_)) <;> (try (first | contradiction | (exfalso; omega)))) | refine c_cond_nb rfl (fun h => ?_) (fun h => ?_) | refine c_cond rfl (fun h => ?_) (fun h => ?_))) | refine c_block ?_ | refine c_skip ?_ | refine c_exit ?_ | refine c_regionQN rfl rfl (by decide +kernel) ?_)) | apply s_stepQ | (refine kQG ?_; (first | refine s_gyesQ rfl rfl rfl ?_ | refine s_gnoQ rfl rfl rfl rfl rfl ?_ | ((first | refine s_splitQ_d rfl rfl (fun h => ?_) (fun h => ?_) | refine s_splitQ_n rfl rfl (fun h => ?_) (fun h => ?_)) <;> (try (first | contradiction | (exfalso; omega)))) | refine s_splitQ_nb rfl rfl (fun h => ?_) (fun h => ?_) | refine s_splitQ rfl rfl (fun h => ?_) (fun h => ?_))) | refine lQ_then ?_ | refine lQ_ends ?_ | (refine kE ?_; (first | refine e_then_r ?_ | refine e_block_r ?_ | refine e_then_n ?_ | refine e_then_x ?_ | refine e_block_n ?_ | refine e_block_x ?_ | refine e_block_y rfl ?_)) | refine l_ends ?_)
  all_goals refine s_leave1 rfl rfl (fun w hw => ⟨?_, hw.below⟩)
  all_goals first | rfl | exact ret_true (by omega) | exact ret_false (by omega) | exact ret_dec (by omega)
end Go.Proofs.Ytakijgpoaeggnaa
/-
  Contracts: slices of ints, dots, pixels, places in memory.
-/
set_option linter.unusedVariables false
namespace Go.Proofs.Ytakijgpoaeggnaa
open Go Sx
attribute [local irreducible] Exit.then Exit.inBlock bodyPost
theorem c_szIntS (v : Value) (l : List Int) (left : Int) (w : World) (hv : RInts w v l) (hl : 0 ≤ left ∧ left ≤ 1048576) : SYields Try.prog 90 #[v, .int .i64 left] (.int .i64 (szI l.length left)) w := by
  have hk := hv.len
  (first | apply SYields.mk | apply SYieldsF.mk | skip); refine s_enter Try.func90 rfl Try.ntmps90 rfl ?_
  repeat' (first | exact rfl | (apply kO; (first | exact ov_pure rfl | (apply kOBin; (first | exact aBin)) | (apply kOCall; (first | (apply kCallB; (first | exact aBlt | exact (ov_lenR (fun w hw => hv.keep (hw.cells rfl)) rfl) | exact aLenR)))) | (apply kOLoad; (first | exact aLdF | exact aLdR)) | exact ov_fieldAddr rfl | (apply kOIdx; (first | exact aIdx)) | exact aRest | exact aNew | exact (ov_field1 (ft := 37) rfl rfl rfl rfl))) | (refine kN ?_; (first | (refine kStore ?_; (first | refine s_store1 _ rfl rfl gpA rfl (by rfl) ?_ | refine s_storeS _ rfl rfl gpA rfl rfl (by rfl) ?_ | refine s_storeS _ rfl rfl gpA rfl (ones_img oiA) (by rfl) ?_)) | refine s_boxS rfl rfl (fun b hb => ?_) | refine s_allocS rfl (fun b hb => ?_) | refine s_box1 rfl rfl rfl (fun b hb => ?_) | refine s_alloc1 rfl rfl (fun b hb => ?_) | refine s_buildSlice0 rfl (fun b hb => ?_) | refine s_buildSlice rfl rfl rfl rfl rfl (fun b hb => ?_) | apply s_step)) | (refine kG ?_; (first | refine s_gyes rfl rfl rfl ?_ | refine s_gno rfl rfl rfl rfl rfl ?_ | ((first | refine s_split_d rfl rfl (fun h => ?_) (fun h => ?_) | refine s_split_n rfl rfl (fun h => ?_) (fun h => ?_)) <;> (try (first | contradiction | (exfalso; omega)))) | refine s_split_nb rfl rfl (fun h => ?_) (fun h => ?_) | refine s_split rfl rfl (fun h => ?_) (fun h => ?_))) | refine l_then ?_ | (refine kC ?_; (first | refine c_seq ?_ | refine c_regionN rfl ?_ | refine c_ret ?_ | (refine kCond ?_; (first | refine c_cond_t rfl ?_ | refine c_cond_f rfl ?_ | ((first | refine c_cond_d rfl (fun h => ?_) (fun h => ?_) | refine c_cond_n rfl (fun h => ?_) (fun h => ?_)) <;> (try (first | contradiction | (exfalso; omega)))) | refine c_cond_nb rfl (fun h => ?_) (fun h => ?_) | refine c_cond rfl (fun h => ?_) (fun h => ?_))) | refine c_block ?_ | refine c_skip ?_ | refine c_exit ?_ | refine c_regionQN rfl rfl (by decide +kernel) ?_)) | apply s_stepQ | (refine kQG ?_; (first | refine s_gyesQ rfl rfl rfl ?_ | refine s_gnoQ rfl rfl rfl rfl rfl ?_ | ((first | refine s_splitQ_d rfl rfl (fun h => ?_) (fun h => ?_) | refine s_splitQ_n rfl rfl (fun h => ?_) (fun h => ?_)) <;> (try (first | contradiction | (exfalso; omega)))) | refine s_splitQ_nb rfl rfl (fun h => ?_) (fun h => ?_) | refine s_splitQ rfl rfl (fun h => ?_) (fun h => ?_))) | refine lQ_then ?_ | refine lQ_ends ?_ | (refine kE ?_; (first | refine e_then_r ?_ | refine e_block_r ?_ | refine e_then_n ?_ | refine e_then_x ?_ | refine e_block_n ?_ | refine e_block_x ?_ | refine e_block_y rfl ?_)) | refine l_ends ?_)
  all_goals refine s_leave1 rfl rfl (fun w hw => ⟨?_, hw.below⟩)
  all_goals (refine ret_int ?_; unfold szI; first | rfl | (rw [if_pos (by omega)]; done) | (rw [if_neg (by omega)]; done) | omega)
theorem c_toIntS (v : Value) (l : List Int) (w : World) (hv : RInts w v l) (hl : l.length ≤ 1048576) : SYieldsF Try.prog 94 #[v] (fun u H => OInts 3 u l H) w := by
  have hl2 := ivals_length l
  (first | apply SYields.mk | apply SYieldsF.mk | skip); refine s_enter Try.func94 rfl Try.ntmps94 rfl ?_
  repeat' (first | exact rfl | (apply kO; (first | exact ov_pure rfl | (apply kOBin; (first | exact aBin)) | (apply kOCall; (first | (apply kCallB; (first | exact aBlt | exact (ov_lenR (fun w hw => hv.keep (hw.cells rfl)) rfl) | exact aLenR)))) | (apply kOLoad; (first | exact (ov_ldR0 (fun w hw => hv.keep (hw.cells rfl)) rfl rfl (by omega) rfl) | exact aLdF | exact aLdR)) | exact ov_fieldAddr rfl | (apply kOIdx; (first | exact (ov_idxR (fun w hw => hv.keep (hw.cells rfl)) rfl rfl (by omega)) | exact (ov_indexAddr rfl rfl (by omega)) | exact aIdx)) | exact aRest | exact aNew | exact (ov_field1 (ft := 37) rfl rfl rfl rfl))) | (refine kN ?_; (first | (refine kStore ?_; (first | (refine s_setR 0 rfl rfl rfl rfl (by rw [fillTo_length _ _ _ (by omega)]; omega) ?_) | refine s_store1 _ rfl rfl gpA rfl (by rfl) ?_ | refine s_storeS _ rfl rfl gpA rfl rfl (by rfl) ?_ | refine s_storeS _ rfl rfl gpA rfl (ones_img oiA) (by rfl) ?_)) | refine s_boxS rfl rfl (fun b hb => ?_) | refine s_allocS rfl (fun b hb => ?_) | refine s_box1 rfl rfl rfl (fun b hb => ?_) | refine s_alloc1 rfl rfl (fun b hb => ?_) | (refine kWMake ?_; (refine s_make1 rfl rfl rfl ⟨by omega, by omega, by omega⟩ (by omega) rfl (fun b hb => ?_))) | refine s_buildSlice0 rfl (fun b hb => ?_) | refine s_buildSlice rfl rfl rfl rfl rfl (fun b hb => ?_) | apply s_step)) | (refine kG ?_; (first | refine s_gyes rfl rfl rfl ?_ | refine s_gno rfl rfl rfl rfl rfl ?_ | ((first | refine s_split_d rfl rfl (fun h => ?_) (fun h => ?_) | refine s_split_n rfl rfl (fun h => ?_) (fun h => ?_)) <;> (try (first | contradiction | (exfalso; omega)))) | refine s_split_nb rfl rfl (fun h => ?_) (fun h => ?_) | refine s_split rfl rfl (fun h => ?_) (fun h => ?_))) | refine l_then ?_ | (refine kC ?_; (first | (refine c_loop (ι := Nat) (fun j => j ≤ l.length) (fun j => [(3, .slice (some ⟨b, 0, none⟩) l.length l.length), (4, .int .i64 (j : Int)), (0, v)]) (fun j => [[(b, srow (fillTo (ivals l) (.int .i64 0) j) 3)]]) (fun j => l.length - j) 0 (by omega) ⟨rfl, rfl, rfl, trivial⟩ (fun w hw => by rw [← fillTo_zero]; simpa [ivals_length] using hw) (fun j hj => ?_)) | refine c_seq ?_ | refine c_regionN rfl ?_ | refine c_ret ?_ | (refine kCond ?_; (first | refine c_cond_t rfl ?_ | refine c_cond_f rfl ?_ | ((first | refine c_cond_d rfl (fun h => ?_) (fun h => ?_) | refine c_cond_n rfl (fun h => ?_) (fun h => ?_)) <;> (try (first | contradiction | (exfalso; omega)))) | refine c_cond_nb rfl (fun h => ?_) (fun h => ?_) | refine c_cond rfl (fun h => ?_) (fun h => ?_))) | refine c_block ?_ | refine c_skip ?_ | refine c_exit ?_ | refine c_regionQN rfl rfl (by decide +kernel) ?_)) | apply s_stepQ | (refine kQG ?_; (first | refine s_gyesQ rfl rfl rfl ?_ | refine s_gnoQ rfl rfl rfl rfl rfl ?_ | ((first | refine s_splitQ_d rfl rfl (fun h => ?_) (fun h => ?_) | refine s_splitQ_n rfl rfl (fun h => ?_) (fun h => ?_)) <;> (try (first | contradiction | (exfalso; omega)))) | refine s_splitQ_nb rfl rfl (fun h => ?_) (fun h => ?_) | refine s_splitQ rfl rfl (fun h => ?_) (fun h => ?_))) | refine lQ_then ?_ | refine lQ_ends ?_ | (refine kE ?_; (first | refine e_then_r ?_ | refine e_block_r ?_ | refine e_then_n ?_ | refine e_then_x ?_ | refine e_block_n ?_ | refine e_block_x ?_ | refine e_block_y rfl ?_)) | refine l_ends ?_)
  · refine e_round (j + 1) (by omega) ⟨rfl, rfl, rfl, trivial⟩ (fun w hw => ?_) (by omega)
    rw [show 0 + (j : Int).toNat * 1 = j by omega, Int.toNat_natCast, fillTo_set _ _ _ j (by omega) (ivals_get (l := l) (j := j) (by omega))] at hw
    exact hw
  · obtain rfl : j = l.length := by omega
    refine s_leave1 rfl rfl (fun w hw => ⟨_, _, rfl, ?_, hw.toFresh (i := 0) rfl⟩)
    have := OVec.blk (k := 1) (T := 3) b l.length l.length (ivals l) [] (by omega) (by simpa using hl2) (by omega) (by unfold maxLen; omega)
    rw [← hl2, fillTo_all]
    simpa [OInts, hl2] using this
theorem c_eqIntS (u v : Value) (k l : List Int) (w : World) (hu : RInts w u k) (hv : RInts w v l) : SYields Try.prog 98 #[u, v] (.bool (decide (k = l))) w := by
  have hk := hu.len
  have hl := hv.len
  (first | apply SYields.mk | apply SYieldsF.mk | skip); refine s_enter Try.func98 rfl Try.ntmps98 rfl ?_
  repeat' (first | exact rfl | (apply kO; (first | exact ov_pure rfl | (apply kOBin; (first | exact aBin)) | (apply kOCall; (first | (apply kCallB; (first | exact aBlt | exact (ov_lenR (fun w hw => hu.keep (hw.cells rfl)) rfl) | exact (ov_lenR (fun w hw => hv.keep (hw.cells rfl)) rfl) | exact aLenR)))) | (apply kOLoad; (first | exact (ov_ldR0 (fun w hw => hu.keep (hw.cells rfl)) rfl rfl (by omega) rfl) | exact (ov_ldR0 (fun w hw => hv.keep (hw.cells rfl)) rfl rfl (by omega) rfl) | exact aLdF | exact aLdR)) | exact ov_fieldAddr rfl | (apply kOIdx; (first | exact (ov_idxR (fun w hw => hu.keep (hw.cells rfl)) rfl rfl (by omega)) | exact (ov_idxR (fun w hw => hv.keep (hw.cells rfl)) rfl rfl (by omega)) | exact aIdx)) | exact aRest | exact aNew | exact (ov_field1 (ft := 37) rfl rfl rfl rfl))) | (refine kN ?_; (first | (refine kStore ?_; (first | refine s_store1 _ rfl rfl gpA rfl (by rfl) ?_ | refine s_storeS _ rfl rfl gpA rfl rfl (by rfl) ?_ | refine s_storeS _ rfl rfl gpA rfl (ones_img oiA) (by rfl) ?_)) | refine s_boxS rfl rfl (fun b hb => ?_) | refine s_allocS rfl (fun b hb => ?_) | refine s_box1 rfl rfl rfl (fun b hb => ?_) | refine s_alloc1 rfl rfl (fun b hb => ?_) | refine s_buildSlice0 rfl (fun b hb => ?_) | refine s_buildSlice rfl rfl rfl rfl rfl (fun b hb => ?_) | apply s_step)) | (refine kG ?_; (first | refine s_gyes rfl rfl rfl ?_ | refine s_gno rfl rfl rfl rfl rfl ?_ | ((first | refine s_split_d rfl rfl (fun h => ?_) (fun h => ?_) | refine s_split_n rfl rfl (fun h => ?_) (fun h => ?_)) <;> (try (first | contradiction | (exfalso; omega)))) | refine s_split_nb rfl rfl (fun h => ?_) (fun h => ?_) | refine s_split rfl rfl (fun h => ?_) (fun h => ?_))) | refine l_then ?_ | (refine kC ?_; (first | (refine c_loop (ι := Nat) (fun j => j ≤ l.length ∧ k.take j = l.take j) (fun j => [(5, .int .i64 (j : Int)), (0, u), (1, v)]) (fun j => []) (fun j => l.length - j) 0 ⟨by omega, rfl⟩ ⟨rfl, rfl, rfl, trivial⟩ (fun w hw => hw) (fun j hj => ?_)) | refine c_seq ?_ | refine c_regionN rfl ?_ | refine c_ret ?_ | (refine kCond ?_; (first | refine c_cond_t rfl ?_ | refine c_cond_f rfl ?_ | ((first | refine c_cond_d rfl (fun h => ?_) (fun h => ?_) | refine c_cond_n rfl (fun h => ?_) (fun h => ?_)) <;> (try (first | contradiction | (exfalso; omega)))) | refine c_cond_nb rfl (fun h => ?_) (fun h => ?_) | refine c_cond rfl (fun h => ?_) (fun h => ?_))) | refine c_block ?_ | refine c_skip ?_ | refine c_exit ?_ | refine c_regionQN rfl rfl (by decide +kernel) ?_)) | apply s_stepQ | (refine kQG ?_; (first | refine s_gyesQ rfl rfl rfl ?_ | refine s_gnoQ rfl rfl rfl rfl rfl ?_ | ((first | refine s_splitQ_d rfl rfl (fun h => ?_) (fun h => ?_) | refine s_splitQ_n rfl rfl (fun h => ?_) (fun h => ?_)) <;> (try (first | contradiction | (exfalso; omega)))) | refine s_splitQ_nb rfl rfl (fun h => ?_) (fun h => ?_) | refine s_splitQ rfl rfl (fun h => ?_) (fun h => ?_))) | refine lQ_then ?_ | refine lQ_ends ?_ | (refine kE ?_; (first | refine e_then_r ?_ | refine e_block_r ?_ | refine e_then_n ?_ | refine e_then_x ?_ | refine e_block_n ?_ | refine e_block_x ?_ | refine e_block_y rfl ?_)) | refine l_ends ?_)
  all_goals try simp only [Int.toNat_natCast] at *
  · exact s_leave1 rfl rfl (fun w hw => ⟨ret_false (ne_of_len (by omega)), hw.below⟩)
  · exact s_leave1 rfl rfl (fun w hw => ⟨ret_false (ne_of_getD (by assumption)), hw.below⟩)
  · exact e_round (j + 1) ⟨by omega, take_next hj.2 (by omega) (by omega) (by omega)⟩ ⟨rfl, rfl, rfl, trivial⟩ (fun w hw => hw) (by omega)
  · exact s_leave1 rfl rfl (fun w hw => ⟨ret_true (eq_of_take hj.2 (by omega) (by omega)), hw.below⟩)
end Go.Proofs.Ytakijgpoaeggnaa
/-
  Contracts: channels of pixels.
-/
set_option linter.unusedVariables false
namespace Go.Proofs.Ytakijgpoaeggnaa
open Go Sx
attribute [local irreducible] Exit.then Exit.inBlock bodyPost
theorem c_channel (p k : Int) (w : World) (hk : 0 ≤ k ∧ k ≤ 3) : SYields Try.prog 162 #[.int .i64 p, .int .i64 k] (.int .i64 (chan p k)) w := by
  (first | apply SYields.mk | apply SYieldsF.mk | skip); refine s_enter Try.func162 rfl Try.ntmps162 rfl ?_
  repeat' (first | exact rfl | (apply kO; (first | exact ov_pure rfl | (apply kOBin; (first | exact aBin)) | (apply kOCall; (first | (apply kCallB; (first | exact aBlt | exact aLenR)))) | (apply kOLoad; (first | exact aLdF | exact aLdR)) | exact ov_fieldAddr rfl | (apply kOIdx; (first | exact aIdx)) | exact aRest | exact aNew | exact (ov_field1 (ft := 37) rfl rfl rfl rfl))) | (refine kN ?_; (first | (refine kStore ?_; (first | refine s_store1 _ rfl rfl gpA rfl (by rfl) ?_ | refine s_storeS _ rfl rfl gpA rfl rfl (by rfl) ?_ | refine s_storeS _ rfl rfl gpA rfl (ones_img oiA) (by rfl) ?_)) | refine s_boxS rfl rfl (fun b hb => ?_) | refine s_allocS rfl (fun b hb => ?_) | refine s_box1 rfl rfl rfl (fun b hb => ?_) | refine s_alloc1 rfl rfl (fun b hb => ?_) | refine s_buildSlice0 rfl (fun b hb => ?_) | refine s_buildSlice rfl rfl rfl rfl rfl (fun b hb => ?_) | apply s_step)) | (refine kG ?_; (first | refine s_gyes rfl rfl rfl ?_ | refine s_gno rfl rfl rfl rfl rfl ?_ | ((first | refine s_split_d rfl rfl (fun h => ?_) (fun h => ?_) | refine s_split_n rfl rfl (fun h => ?_) (fun h => ?_)) <;> (try (first | contradiction | (exfalso; omega)))) | refine s_split_nb rfl rfl (fun h => ?_) (fun h => ?_) | refine s_split rfl rfl (fun h => ?_) (fun h => ?_))) | refine l_then ?_ | (refine kC ?_; (first | refine c_seq ?_ | refine c_regionN rfl ?_ | refine c_ret ?_ | (refine kCond ?_; (first | refine c_cond_t rfl ?_ | refine c_cond_f rfl ?_ | ((first | refine c_cond_d rfl (fun h => ?_) (fun h => ?_) | refine c_cond_n rfl (fun h => ?_) (fun h => ?_)) <;> (try (first | contradiction | (exfalso; omega)))) | refine c_cond_nb rfl (fun h => ?_) (fun h => ?_) | refine c_cond rfl (fun h => ?_) (fun h => ?_))) | refine c_block ?_ | refine c_skip ?_ | refine c_exit ?_ | refine c_regionQN rfl rfl (by decide +kernel) ?_)) | apply s_stepQ | (refine kQG ?_; (first | refine s_gyesQ rfl rfl rfl ?_ | refine s_gnoQ rfl rfl rfl rfl rfl ?_ | ((first | refine s_splitQ_d rfl rfl (fun h => ?_) (fun h => ?_) | refine s_splitQ_n rfl rfl (fun h => ?_) (fun h => ?_)) <;> (try (first | contradiction | (exfalso; omega)))) | refine s_splitQ_nb rfl rfl (fun h => ?_) (fun h => ?_) | refine s_splitQ rfl rfl (fun h => ?_) (fun h => ?_))) | refine lQ_then ?_ | refine lQ_ends ?_ | (refine kE ?_; (first | refine e_then_r ?_ | refine e_block_r ?_ | refine e_then_n ?_ | refine e_then_x ?_ | refine e_block_n ?_ | refine e_block_x ?_ | refine e_block_y rfl ?_)) | refine l_ends ?_)
  all_goals refine s_leave1 rfl rfl (fun w hw => ⟨?_, hw.below⟩)
  all_goals rfl
theorem c_schannelOf (p k : Int) (w : World) : SYields Try.prog 115 #[.int .i64 p, .int .i64 k] (.int .i64 (channelOf p k)) w := by
  (first | apply SYields.mk | apply SYieldsF.mk | skip); refine s_enter Try.func115 rfl Try.ntmps115 rfl ?_
  repeat' (first | exact rfl | (apply kO; (first | exact ov_pure rfl | (apply kOBin; (first | exact aBin)) | (apply kOCall; (first | (apply kCallF; (first | exact (ov_call rfl (fun w hw => c_l04Pixel _ w)) | exact (ov_call rfl (fun w hw => c_l01In _ _ _ w)))) | (apply kCallB; (first | exact aBlt | exact aLenR)))) | (apply kOLoad; (first | exact aLdF | exact aLdR)) | exact ov_fieldAddr rfl | (apply kOIdx; (first | exact aIdx)) | exact aRest | exact aNew | exact (ov_field1 (ft := 37) rfl rfl rfl rfl))) | (refine kN ?_; (first | (refine kStore ?_; (first | refine s_store1 _ rfl rfl gpA rfl (by rfl) ?_ | refine s_storeS _ rfl rfl gpA rfl rfl (by rfl) ?_ | refine s_storeS _ rfl rfl gpA rfl (ones_img oiA) (by rfl) ?_)) | refine s_boxS rfl rfl (fun b hb => ?_) | refine s_allocS rfl (fun b hb => ?_) | refine s_box1 rfl rfl rfl (fun b hb => ?_) | refine s_alloc1 rfl rfl (fun b hb => ?_) | refine s_buildSlice0 rfl (fun b hb => ?_) | refine s_buildSlice rfl rfl rfl rfl rfl (fun b hb => ?_) | apply s_step)) | (refine kG ?_; (first | refine s_gyes rfl rfl rfl ?_ | refine s_gno rfl rfl rfl rfl rfl ?_ | ((first | refine s_split_d rfl rfl (fun h => ?_) (fun h => ?_) | refine s_split_n rfl rfl (fun h => ?_) (fun h => ?_)) <;> (try (first | contradiction | (exfalso; omega)))) | refine s_split_nb rfl rfl (fun h => ?_) (fun h => ?_) | refine s_split rfl rfl (fun h => ?_) (fun h => ?_))) | refine l_then ?_ | (refine kC ?_; (first | refine c_seq ?_ | refine c_regionN rfl ?_ | refine c_ret ?_ | (refine kCond ?_; (first | refine c_cond_t rfl ?_ | refine c_cond_f rfl ?_ | ((first | refine c_cond_d rfl (fun h => ?_) (fun h => ?_) | refine c_cond_n rfl (fun h => ?_) (fun h => ?_)) <;> (try (first | contradiction | (exfalso; omega)))) | refine c_cond_nb rfl (fun h => ?_) (fun h => ?_) | refine c_cond rfl (fun h => ?_) (fun h => ?_))) | refine c_block ?_ | refine c_skip ?_ | refine c_exit ?_ | refine c_regionQN rfl rfl (by decide +kernel) ?_)) | apply s_stepQ | (refine kQG ?_; (first | refine s_gyesQ rfl rfl rfl ?_ | refine s_gnoQ rfl rfl rfl rfl rfl ?_ | ((first | refine s_splitQ_d rfl rfl (fun h => ?_) (fun h => ?_) | refine s_splitQ_n rfl rfl (fun h => ?_) (fun h => ?_)) <;> (try (first | contradiction | (exfalso; omega)))) | refine s_splitQ_nb rfl rfl (fun h => ?_) (fun h => ?_) | refine s_splitQ rfl rfl (fun h => ?_) (fun h => ?_))) | refine lQ_then ?_ | refine lQ_ends ?_ | (refine kE ?_; (first | refine e_then_r ?_ | refine e_block_r ?_ | refine e_then_n ?_ | refine e_then_x ?_ | refine e_block_n ?_ | refine e_block_x ?_ | refine e_block_y rfl ?_)) | refine l_ends ?_)
  all_goals refine s_leave1 rfl rfl (fun w hw => ⟨?_, hw.below⟩)
  all_goals (refine ret_int ?_; unfold channelOf; first | (rw [if_neg (by omega)]; done) | (rw [if_pos (by omega)]; rfl))
theorem c_schannelIn (p k : Int) (w : World) (hp : 0 ≤ p ∧ p ≤ 4294967295) (hk : 0 ≤ k ∧ k ≤ 3) : SYields Try.prog 115 #[.int .i64 p, .int .i64 k] (.int .i64 (chan p k)) w := by
  have := c_schannelOf p k w
  unfold channelOf at this
  rwa [if_pos (by omega)] at this
end Go.Proofs.Ytakijgpoaeggnaa
/-
  Contracts: images and surfaces that are valid, that are the same; the index of a surface.
-/
set_option linter.unusedVariables false
namespace Go.Proofs.Ytakijgpoaeggnaa
open Go Sx
attribute [local irreducible] Exit.then Exit.inBlock bodyPost
theorem c_iimageOk (i : DImg) (d : Value) (w : World) (hd : RInts w d i.data) : SYields Try.prog 83 #[vImg i d] (.bool (decide i.ok)) w := by
  have hl := hd.len
  have hwh := fun (a : 1 ≤ i.W ∧ i.W ≤ 16) (c : 1 ≤ i.H ∧ i.H ≤ 16) => side_mul (w := i.W) (h := i.H) ⟨a.1, a.2, c.1, c.2⟩
  (first | apply SYields.mk | apply SYieldsF.mk | skip); refine s_enter Try.func83 rfl Try.ntmps83 rfl ?_
  repeat' (first | exact rfl | (apply kO; (first | exact ov_pure rfl | (apply kOBin; (first | exact aBin | exact (ov_mul rfl rfl (by have := hwh (by omega) (by omega); omega)))) | (apply kOCall; (first | (apply kCallF; (first | exact (ov_call rfl (fun w hw => c_isSide _ w)) | exact (ov_call rfl (fun w hw => c_isPixel _ w)))) | (apply kCallB; (first | exact aBlt | exact aLenR)))) | (apply kOLoad; (first | exact aLdF | exact aLdR)) | exact ov_fieldAddr rfl | (apply kOIdx; (first | exact aIdx)) | exact aRest | exact aNew | exact (ov_field1 (ft := 37) rfl rfl rfl rfl))) | (refine kN ?_; (first | (refine kStore ?_; (first | refine s_store1 _ rfl rfl gpA rfl (by rfl) ?_ | refine s_storeS _ rfl rfl gpA rfl rfl (by rfl) ?_ | refine s_storeS _ rfl rfl gpA rfl (ones_img oiA) (by rfl) ?_)) | refine s_boxS rfl rfl (fun b hb => ?_) | refine s_allocS rfl (fun b hb => ?_) | refine s_box1 rfl rfl rfl (fun b hb => ?_) | refine s_alloc1 rfl rfl (fun b hb => ?_) | refine s_buildSlice0 rfl (fun b hb => ?_) | refine s_buildSlice rfl rfl rfl rfl rfl (fun b hb => ?_) | apply s_step)) | (refine kG ?_; (first | refine s_gyes rfl rfl rfl ?_ | refine s_gno rfl rfl rfl rfl rfl ?_ | ((first | refine s_split_d rfl rfl (fun h => ?_) (fun h => ?_) | refine s_split_n rfl rfl (fun h => ?_) (fun h => ?_)) <;> (try (first | contradiction | (exfalso; omega)))) | refine s_split_nb rfl rfl (fun h => ?_) (fun h => ?_) | refine s_split rfl rfl (fun h => ?_) (fun h => ?_))) | refine l_then ?_ | (refine kC ?_; (first | (refine c_loopV (ι := Nat) (fun j => j ≤ i.data.length ∧ inTo 0 4294967295 i.data j) (fun j => [(29, .int .i64 (j : Int))]) (fun _ => [_]) (fun j => i.data.length - j) 0 ⟨by omega, inTo_zero _ _ _⟩ rfl (fun _ => rfl) ⟨rfl, trivial⟩ (fun w hw => hw) (fun j hj => ?_)) | refine c_seq ?_ | refine c_regionN rfl ?_ | refine c_ret ?_ | (refine kCond ?_; (first | refine c_cond_t rfl ?_ | refine c_cond_f rfl ?_ | ((first | refine c_cond_d rfl (fun h => ?_) (fun h => ?_) | refine c_cond_n rfl (fun h => ?_) (fun h => ?_)) <;> (try (first | contradiction | (exfalso; omega)))) | refine c_cond_nb rfl (fun h => ?_) (fun h => ?_) | refine c_cond rfl (fun h => ?_) (fun h => ?_))) | refine c_block ?_ | refine c_skip ?_ | refine c_exit ?_ | refine c_regionQN rfl rfl (by decide +kernel) ?_)) | apply s_stepQ | (refine kQG ?_; (first | refine s_gyesQ rfl rfl rfl ?_ | refine s_gnoQ rfl rfl rfl rfl rfl ?_ | ((first | refine s_splitQ_d rfl rfl (fun h => ?_) (fun h => ?_) | refine s_splitQ_n rfl rfl (fun h => ?_) (fun h => ?_)) <;> (try (first | contradiction | (exfalso; omega)))) | refine s_splitQ_nb rfl rfl (fun h => ?_) (fun h => ?_) | refine s_splitQ rfl rfl (fun h => ?_) (fun h => ?_))) | refine lQ_then ?_ | refine lQ_ends ?_ | (refine kE ?_; (first | refine e_then_r ?_ | refine e_block_r ?_ | refine e_then_n ?_ | refine e_then_x ?_ | refine e_block_n ?_ | refine e_block_x ?_ | refine e_block_y rfl ?_)) | refine l_ends ?_)
  all_goals try simp only [Int.toNat_natCast] at *
  all_goals try (exact e_round (j + 1) ⟨by omega, inTo_next hj.2 (by omega)⟩ ⟨rfl, (by repeat' first | exact trivial | refine ⟨rfl, ?_⟩)⟩ (fun w hw => hw) (by omega))
  all_goals refine s_leave1 rfl rfl (fun w hw => ⟨?_, hw.below⟩)
  all_goals first | exact ret_true ⟨by omega, by omega, by omega, fun q hq => hj.2 q (by omega)⟩ | (refine ret_false (fun hh => ?_); obtain ⟨h1, h2, h3, h4⟩ := hh; first | omega | (have := h4 j (by omega); omega))
theorem c_simageOk (i : DImg) (d : Value) (w : World) (hd : RInts w d i.data) : SYields Try.prog 92 #[vImg i d] (.bool (decide i.ok)) w := by
  have hl := hd.len
  have hwh := fun (a : 1 ≤ i.W ∧ i.W ≤ 16) (c : 1 ≤ i.H ∧ i.H ≤ 16) => side_mul (w := i.W) (h := i.H) ⟨a.1, a.2, c.1, c.2⟩
  (first | apply SYields.mk | apply SYieldsF.mk | skip); refine s_enter Try.func92 rfl Try.ntmps92 rfl ?_
  repeat' (first | exact rfl | (apply kO; (first | exact ov_pure rfl | (apply kOBin; (first | exact aBin | exact (ov_mul rfl rfl (by have := hwh (by omega) (by omega); omega)))) | (apply kOCall; (first | (apply kCallF; (first | exact (ov_call rfl (fun w hw => c_l01In _ _ _ w)) | exact (ov_call rfl (fun w hw => c_l04Pixel _ w)))) | (apply kCallB; (first | exact aBlt | exact aLenR)))) | (apply kOLoad; (first | exact aLdF | exact aLdR)) | exact ov_fieldAddr rfl | (apply kOIdx; (first | exact aIdx)) | exact aRest | exact aNew | exact (ov_field1 (ft := 37) rfl rfl rfl rfl))) | (refine kN ?_; (first | (refine kStore ?_; (first | refine s_store1 _ rfl rfl gpA rfl (by rfl) ?_ | refine s_storeS _ rfl rfl gpA rfl rfl (by rfl) ?_ | refine s_storeS _ rfl rfl gpA rfl (ones_img oiA) (by rfl) ?_)) | refine s_boxS rfl rfl (fun b hb => ?_) | refine s_allocS rfl (fun b hb => ?_) | refine s_box1 rfl rfl rfl (fun b hb => ?_) | refine s_alloc1 rfl rfl (fun b hb => ?_) | refine s_buildSlice0 rfl (fun b hb => ?_) | refine s_buildSlice rfl rfl rfl rfl rfl (fun b hb => ?_) | apply s_step)) | (refine kG ?_; (first | refine s_gyes rfl rfl rfl ?_ | refine s_gno rfl rfl rfl rfl rfl ?_ | ((first | refine s_split_d rfl rfl (fun h => ?_) (fun h => ?_) | refine s_split_n rfl rfl (fun h => ?_) (fun h => ?_)) <;> (try (first | contradiction | (exfalso; omega)))) | refine s_split_nb rfl rfl (fun h => ?_) (fun h => ?_) | refine s_split rfl rfl (fun h => ?_) (fun h => ?_))) | refine l_then ?_ | (refine kC ?_; (first | (refine c_loopV (ι := Nat) (fun j => j ≤ i.data.length ∧ inTo 0 4294967295 i.data j) (fun j => [(3, .int .i64 (j : Int))]) (fun _ => [_]) (fun j => i.data.length - j) 0 ⟨by omega, inTo_zero _ _ _⟩ rfl (fun _ => rfl) ⟨rfl, trivial⟩ (fun w hw => hw) (fun j hj => ?_)) | refine c_seq ?_ | refine c_regionN rfl ?_ | refine c_ret ?_ | (refine kCond ?_; (first | refine c_cond_t rfl ?_ | refine c_cond_f rfl ?_ | ((first | refine c_cond_d rfl (fun h => ?_) (fun h => ?_) | refine c_cond_n rfl (fun h => ?_) (fun h => ?_)) <;> (try (first | contradiction | (exfalso; omega)))) | refine c_cond_nb rfl (fun h => ?_) (fun h => ?_) | refine c_cond rfl (fun h => ?_) (fun h => ?_))) | refine c_block ?_ | refine c_skip ?_ | refine c_exit ?_ | refine c_regionQN rfl rfl (by decide +kernel) ?_)) | apply s_stepQ | (refine kQG ?_; (first | refine s_gyesQ rfl rfl rfl ?_ | refine s_gnoQ rfl rfl rfl rfl rfl ?_ | ((first | refine s_splitQ_d rfl rfl (fun h => ?_) (fun h => ?_) | refine s_splitQ_n rfl rfl (fun h => ?_) (fun h => ?_)) <;> (try (first | contradiction | (exfalso; omega)))) | refine s_splitQ_nb rfl rfl (fun h => ?_) (fun h => ?_) | refine s_splitQ rfl rfl (fun h => ?_) (fun h => ?_))) | refine lQ_then ?_ | refine lQ_ends ?_ | (refine kE ?_; (first | refine e_then_r ?_ | refine e_block_r ?_ | refine e_then_n ?_ | refine e_then_x ?_ | refine e_block_n ?_ | refine e_block_x ?_ | refine e_block_y rfl ?_)) | refine l_ends ?_)
  all_goals try simp only [Int.toNat_natCast] at *
  all_goals try (exact e_round (j + 1) ⟨by omega, inTo_next hj.2 (by omega)⟩ ⟨rfl, (by repeat' first | exact trivial | refine ⟨rfl, ?_⟩)⟩ (fun w hw => hw) (by omega))
  all_goals refine s_leave1 rfl rfl (fun w hw => ⟨?_, hw.below⟩)
  all_goals first | exact ret_true ⟨by omega, by omega, by omega, fun q hq => hj.2 q (by omega)⟩ | (refine ret_false (fun hh => ?_); obtain ⟨h1, h2, h3, h4⟩ := hh; first | omega | (have := h4 j (by omega); omega))
theorem c_isOrient (x : Int) (w : World) : SYields Try.prog 166 #[.int .i64 x] (.bool (decide (0 ≤ x ∧ x ≤ 7))) w := by
  (first | apply SYields.mk | apply SYieldsF.mk | skip); refine s_enter Try.func166 rfl Try.ntmps166 rfl ?_
  repeat' (first | exact rfl | (apply kO; (first | exact ov_pure rfl | (apply kOBin; (first | exact aBin)) | (apply kOCall; (first | (apply kCallF; (first | exact (ov_call rfl (fun w hw => c_within _ _ _ w)))) | (apply kCallB; (first | exact aBlt | exact aLenR)))) | (apply kOLoad; (first | exact aLdF | exact aLdR)) | exact ov_fieldAddr rfl | (apply kOIdx; (first | exact aIdx)) | exact aRest | exact aNew | exact (ov_field1 (ft := 37) rfl rfl rfl rfl))) | (refine kN ?_; (first | (refine kStore ?_; (first | refine s_store1 _ rfl rfl gpA rfl (by rfl) ?_ | refine s_storeS _ rfl rfl gpA rfl rfl (by rfl) ?_ | refine s_storeS _ rfl rfl gpA rfl (ones_img oiA) (by rfl) ?_)) | refine s_boxS rfl rfl (fun b hb => ?_) | refine s_allocS rfl (fun b hb => ?_) | refine s_box1 rfl rfl rfl (fun b hb => ?_) | refine s_alloc1 rfl rfl (fun b hb => ?_) | refine s_buildSlice0 rfl (fun b hb => ?_) | refine s_buildSlice rfl rfl rfl rfl rfl (fun b hb => ?_) | apply s_step)) | (refine kG ?_; (first | refine s_gyes rfl rfl rfl ?_ | refine s_gno rfl rfl rfl rfl rfl ?_ | ((first | refine s_split_d rfl rfl (fun h => ?_) (fun h => ?_) | refine s_split_n rfl rfl (fun h => ?_) (fun h => ?_)) <;> (try (first | contradiction | (exfalso; omega)))) | refine s_split_nb rfl rfl (fun h => ?_) (fun h => ?_) | refine s_split rfl rfl (fun h => ?_) (fun h => ?_))) | refine l_then ?_ | (refine kC ?_; (first | refine c_seq ?_ | refine c_regionN rfl ?_ | refine c_ret ?_ | (refine kCond ?_; (first | refine c_cond_t rfl ?_ | refine c_cond_f rfl ?_ | ((first | refine c_cond_d rfl (fun h => ?_) (fun h => ?_) | refine c_cond_n rfl (fun h => ?_) (fun h => ?_)) <;> (try (first | contradiction | (exfalso; omega)))) | refine c_cond_nb rfl (fun h => ?_) (fun h => ?_) | refine c_cond rfl (fun h => ?_) (fun h => ?_))) | refine c_block ?_ | refine c_skip ?_ | refine c_exit ?_ | refine c_regionQN rfl rfl (by decide +kernel) ?_)) | apply s_stepQ | (refine kQG ?_; (first | refine s_gyesQ rfl rfl rfl ?_ | refine s_gnoQ rfl rfl rfl rfl rfl ?_ | ((first | refine s_splitQ_d rfl rfl (fun h => ?_) (fun h => ?_) | refine s_splitQ_n rfl rfl (fun h => ?_) (fun h => ?_)) <;> (try (first | contradiction | (exfalso; omega)))) | refine s_splitQ_nb rfl rfl (fun h => ?_) (fun h => ?_) | refine s_splitQ rfl rfl (fun h => ?_) (fun h => ?_))) | refine lQ_then ?_ | refine lQ_ends ?_ | (refine kE ?_; (first | refine e_then_r ?_ | refine e_block_r ?_ | refine e_then_n ?_ | refine e_then_x ?_ | refine e_block_n ?_ | refine e_block_x ?_ | refine e_block_y rfl ?_)) | refine l_ends ?_)
  all_goals refine s_leave1 rfl rfl (fun w hw => ⟨?_, hw.below⟩)
  all_goals first | rfl | exact ret_true (by omega) | exact ret_false (by omega) | exact ret_dec (by omega)
theorem c_isurfaceOk (s : DSurf) (d : Value) (w : World) (hd : RInts w d s.buf.data) : SYields Try.prog 104 #[vSurf s d] (.bool (decide s.ok)) w := by
  (first | apply SYields.mk | apply SYieldsF.mk | skip); refine s_enter Try.func104 rfl Try.ntmps104 rfl ?_
  repeat' (first | exact rfl | (apply kO; (first | exact ov_pure rfl | (apply kOBin; (first | exact aBin)) | (apply kOCall; (first | (apply kCallF; (first | exact (ov_call rfl (fun w hw => c_within _ _ _ w)) | exact (ov_call rfl (fun w hw => c_isSide _ w)) | exact (ov_call rfl (fun w hw => c_isOrient _ w)) | exact (ov_call rfl (fun w hw => c_iimageOk s.buf _ w (riA hw))))) | (apply kCallB; (first | exact aBlt | exact aLenR)))) | (apply kOLoad; (first | exact aLdF | exact aLdR)) | exact ov_fieldAddr rfl | (apply kOIdx; (first | exact aIdx)) | exact aRest | exact aNew | exact (ov_field1 (ft := 37) rfl rfl rfl rfl))) | (refine kN ?_; (first | (refine kStore ?_; (first | refine s_store1 _ rfl rfl gpA rfl (by rfl) ?_ | refine s_storeS _ rfl rfl gpA rfl rfl (by rfl) ?_ | refine s_storeS _ rfl rfl gpA rfl (ones_img oiA) (by rfl) ?_)) | refine s_boxS rfl rfl (fun b hb => ?_) | refine s_allocS rfl (fun b hb => ?_) | refine s_box1 rfl rfl rfl (fun b hb => ?_) | refine s_alloc1 rfl rfl (fun b hb => ?_) | refine s_buildSlice0 rfl (fun b hb => ?_) | refine s_buildSlice rfl rfl rfl rfl rfl (fun b hb => ?_) | apply s_step)) | (refine kG ?_; (first | refine s_gyes rfl rfl rfl ?_ | refine s_gno rfl rfl rfl rfl rfl ?_ | ((first | refine s_split_d rfl rfl (fun h => ?_) (fun h => ?_) | refine s_split_n rfl rfl (fun h => ?_) (fun h => ?_)) <;> (try (first | contradiction | (exfalso; omega)))) | refine s_split_nb rfl rfl (fun h => ?_) (fun h => ?_) | refine s_split rfl rfl (fun h => ?_) (fun h => ?_))) | refine l_then ?_ | (refine kC ?_; (first | refine c_seq ?_ | refine c_regionN rfl ?_ | refine c_ret ?_ | (refine kCond ?_; (first | refine c_cond_t rfl ?_ | refine c_cond_f rfl ?_ | ((first | refine c_cond_d rfl (fun h => ?_) (fun h => ?_) | refine c_cond_n rfl (fun h => ?_) (fun h => ?_)) <;> (try (first | contradiction | (exfalso; omega)))) | refine c_cond_nb rfl (fun h => ?_) (fun h => ?_) | refine c_cond rfl (fun h => ?_) (fun h => ?_))) | refine c_block ?_ | refine c_skip ?_ | refine c_exit ?_ | refine c_regionQN rfl rfl (by decide +kernel) ?_)) | apply s_stepQ | (refine kQG ?_; (first | refine s_gyesQ rfl rfl rfl ?_ | refine s_gnoQ rfl rfl rfl rfl rfl ?_ | ((first | refine s_splitQ_d rfl rfl (fun h => ?_) (fun h => ?_) | refine s_splitQ_n rfl rfl (fun h => ?_) (fun h => ?_)) <;> (try (first | contradiction | (exfalso; omega)))) | refine s_splitQ_nb rfl rfl (fun h => ?_) (fun h => ?_) | refine s_splitQ rfl rfl (fun h => ?_) (fun h => ?_))) | refine lQ_then ?_ | refine lQ_ends ?_ | (refine kE ?_; (first | refine e_then_r ?_ | refine e_block_r ?_ | refine e_then_n ?_ | refine e_then_x ?_ | refine e_block_n ?_ | refine e_block_x ?_ | refine e_block_y rfl ?_)) | refine l_ends ?_)
  all_goals refine s_leave1 rfl rfl (fun w hw => ⟨?_, hw.below⟩)
  all_goals first | (refine ret_false (fun hh => ?_); obtain ⟨h1, h2, h3, h4, h5, h6, h7⟩ := hh; simp only [DSurf.sized, byteP] at h4 h5; omega) | exact ret_dec ⟨fun hd => ⟨by omega, by omega, by omega, by simp only [DSurf.sized]; omega, by simp only [byteP]; omega, by omega, hd⟩, fun hh => hh.2.2.2.2.2.2⟩
theorem c_ssurfaceOk (s : DSurf) (d : Value) (w : World) (hd : RInts w d s.buf.data) : SYields Try.prog 157 #[vSurf s d] (.bool (decide s.ok)) w := by
  (first | apply SYields.mk | apply SYieldsF.mk | skip); refine s_enter Try.func157 rfl Try.ntmps157 rfl ?_
  repeat' (first | exact rfl | (apply kO; (first | exact ov_pure rfl | (apply kOBin; (first | exact aBin)) | (apply kOCall; (first | (apply kCallF; (first | exact (ov_call rfl (fun w hw => c_l01In _ _ _ w)) | exact (ov_call rfl (fun w hw => c_simageOk s.buf _ w (riA hw))))) | (apply kCallB; (first | exact aBlt | exact aLenR)))) | (apply kOLoad; (first | exact aLdF | exact aLdR)) | exact ov_fieldAddr rfl | (apply kOIdx; (first | exact aIdx)) | exact aRest | exact aNew | exact (ov_field1 (ft := 37) rfl rfl rfl rfl))) | (refine kN ?_; (first | (refine kStore ?_; (first | refine s_store1 _ rfl rfl gpA rfl (by rfl) ?_ | refine s_storeS _ rfl rfl gpA rfl rfl (by rfl) ?_ | refine s_storeS _ rfl rfl gpA rfl (ones_img oiA) (by rfl) ?_)) | refine s_boxS rfl rfl (fun b hb => ?_) | refine s_allocS rfl (fun b hb => ?_) | refine s_box1 rfl rfl rfl (fun b hb => ?_) | refine s_alloc1 rfl rfl (fun b hb => ?_) | refine s_buildSlice0 rfl (fun b hb => ?_) | refine s_buildSlice rfl rfl rfl rfl rfl (fun b hb => ?_) | apply s_step)) | (refine kG ?_; (first | refine s_gyes rfl rfl rfl ?_ | refine s_gno rfl rfl rfl rfl rfl ?_ | ((first | refine s_split_d rfl rfl (fun h => ?_) (fun h => ?_) | refine s_split_n rfl rfl (fun h => ?_) (fun h => ?_)) <;> (try (first | contradiction | (exfalso; omega)))) | refine s_split_nb rfl rfl (fun h => ?_) (fun h => ?_) | refine s_split rfl rfl (fun h => ?_) (fun h => ?_))) | refine l_then ?_ | (refine kC ?_; (first | refine c_seq ?_ | refine c_regionN rfl ?_ | refine c_ret ?_ | (refine kCond ?_; (first | refine c_cond_t rfl ?_ | refine c_cond_f rfl ?_ | ((first | refine c_cond_d rfl (fun h => ?_) (fun h => ?_) | refine c_cond_n rfl (fun h => ?_) (fun h => ?_)) <;> (try (first | contradiction | (exfalso; omega)))) | refine c_cond_nb rfl (fun h => ?_) (fun h => ?_) | refine c_cond rfl (fun h => ?_) (fun h => ?_))) | refine c_block ?_ | refine c_skip ?_ | refine c_exit ?_ | refine c_regionQN rfl rfl (by decide +kernel) ?_)) | apply s_stepQ | (refine kQG ?_; (first | refine s_gyesQ rfl rfl rfl ?_ | refine s_gnoQ rfl rfl rfl rfl rfl ?_ | ((first | refine s_splitQ_d rfl rfl (fun h => ?_) (fun h => ?_) | refine s_splitQ_n rfl rfl (fun h => ?_) (fun h => ?_)) <;> (try (first | contradiction | (exfalso; omega)))) | refine s_splitQ_nb rfl rfl (fun h => ?_) (fun h => ?_) | refine s_splitQ rfl rfl (fun h => ?_) (fun h => ?_))) | refine lQ_then ?_ | refine lQ_ends ?_ | (refine kE ?_; (first | refine e_then_r ?_ | refine e_block_r ?_ | refine e_then_n ?_ | refine e_then_x ?_ | refine e_block_n ?_ | refine e_block_x ?_ | refine e_block_y rfl ?_)) | refine l_ends ?_)
  all_goals refine s_leave1 rfl rfl (fun w hw => ⟨?_, hw.below⟩)
  all_goals first | (refine ret_false (fun hh => ?_); obtain ⟨h1, h2, h3, h4, h5, h6, h7⟩ := hh; simp only [DSurf.sized, byteP] at h4 h5; first | omega | contradiction) | (refine ret_true ⟨by omega, by omega, by omega, by simp only [DSurf.sized]; omega, by simp only [byteP]; omega, by omega, by assumption⟩) | exact ret_dec ⟨fun hd => ⟨by omega, by omega, by omega, by simp only [DSurf.sized]; omega, by simp only [byteP]; omega, by omega, by assumption⟩, fun hh => by obtain ⟨h1, h2, h3, h4, h5, h6, h7⟩ := hh; simp only [DSurf.sized, byteP] at h4 h5; omega⟩
end Go.Proofs.Ytakijgpoaeggnaa
/-
  Contracts: the index of a surface; scenes that are valid.
-/
set_option linter.unusedVariables false
namespace Go.Proofs.Ytakijgpoaeggnaa
open Go Sx
attribute [local irreducible] Exit.then Exit.inBlock bodyPost
theorem c_ssurfaceIndex (s : DScene) (v : Value) (id : Int) (w : World) (hv : RS eSurf w v s.ss) : SYields Try.prog 41 #[vScene s v, .int .i64 id] (.int .i64 (surfaceIndex s.ss id)) w := by
  obtain ⟨ds, hv⟩ := hv
  have hl := hv.row.len
  (first | apply SYields.mk | apply SYieldsF.mk | skip); refine s_enter Try.func41 rfl Try.ntmps41 rfl ?_
  repeat' (first | exact rfl | (apply kO; (first | exact ov_pure rfl | (apply kOBin; (first | exact aBin)) | (apply kOCall; (first | (apply kCallB; (first | exact aBlt | exact aLenR)))) | (apply kOLoad; (first | exact aLdF | exact aLdR)) | exact ov_fieldAddr rfl | (apply kOIdx; (first | exact aIdx)) | exact aRest | exact aNew | exact (ov_field1 (ft := 37) rfl rfl rfl rfl))) | (refine kN ?_; (first | (refine kStore ?_; (first | refine s_store1 _ rfl rfl gpA rfl (by rfl) ?_ | refine s_storeS _ rfl rfl gpA rfl rfl (by rfl) ?_ | refine s_storeS _ rfl rfl gpA rfl (ones_img oiA) (by rfl) ?_)) | refine s_boxS rfl rfl (fun b hb => ?_) | refine s_allocS rfl (fun b hb => ?_) | refine s_box1 rfl rfl rfl (fun b hb => ?_) | refine s_alloc1 rfl rfl (fun b hb => ?_) | refine s_buildSlice0 rfl (fun b hb => ?_) | refine s_buildSlice rfl rfl rfl rfl rfl (fun b hb => ?_) | apply s_step)) | (refine kG ?_; (first | refine s_gyes rfl rfl rfl ?_ | refine s_gno rfl rfl rfl rfl rfl ?_ | ((first | refine s_split_d rfl rfl (fun h => ?_) (fun h => ?_) | refine s_split_n rfl rfl (fun h => ?_) (fun h => ?_)) <;> (try (first | contradiction | (exfalso; omega)))) | refine s_split_nb rfl rfl (fun h => ?_) (fun h => ?_) | refine s_split rfl rfl (fun h => ?_) (fun h => ?_))) | refine l_then ?_ | (refine kC ?_; (first | (refine c_loopV (ι := Nat) (fun j => j ≤ s.ss.length ∧ ∀ i, i < j → (s.ss.getD i default).Id ≠ id) (fun j => [(5, .int .i64 (j : Int))]) (fun _ => [_]) (fun j => s.ss.length - j) 0 ⟨by omega, fun i hi => by omega⟩ rfl (fun _ => rfl) ⟨rfl, trivial⟩ (fun w hw => hw) (fun j hj => ?_)) | refine c_seq ?_ | refine c_regionN rfl ?_ | refine c_ret ?_ | (refine kCond ?_; (first | refine c_cond_t rfl ?_ | refine c_cond_f rfl ?_ | ((first | refine c_cond_d rfl (fun h => ?_) (fun h => ?_) | refine c_cond_n rfl (fun h => ?_) (fun h => ?_)) <;> (try (first | contradiction | (exfalso; omega)))) | refine c_cond_nb rfl (fun h => ?_) (fun h => ?_) | refine c_cond rfl (fun h => ?_) (fun h => ?_))) | refine c_block ?_ | refine c_skip ?_ | refine c_exit ?_ | refine c_regionQN rfl rfl (by decide +kernel) ?_)) | apply s_stepQ | (refine kQG ?_; (first | refine s_gyesQ rfl rfl rfl ?_ | refine s_gnoQ rfl rfl rfl rfl rfl ?_ | ((first | refine s_splitQ_d rfl rfl (fun h => ?_) (fun h => ?_) | refine s_splitQ_n rfl rfl (fun h => ?_) (fun h => ?_)) <;> (try (first | contradiction | (exfalso; omega)))) | refine s_splitQ_nb rfl rfl (fun h => ?_) (fun h => ?_) | refine s_splitQ rfl rfl (fun h => ?_) (fun h => ?_))) | refine lQ_then ?_ | refine lQ_ends ?_ | (refine kE ?_; (first | refine e_then_r ?_ | refine e_block_r ?_ | refine e_then_n ?_ | refine e_then_x ?_ | refine e_block_n ?_ | refine e_block_x ?_ | refine e_block_y rfl ?_)) | refine l_ends ?_)
  all_goals try simp only [Int.toNat_natCast, eSurf_dflt] at *
  · exact s_leave1 rfl rfl (fun w hw => ⟨ret_int (surfaceIndex_found (by omega) hj.2 (by assumption)).symm, hw.below⟩)
  · exact e_round (j + 1) ⟨by omega, fun i hi => by
      by_cases e : i = j
      · subst e; assumption
      · exact hj.2 i (by omega)⟩ ⟨rfl, (by repeat' first | exact trivial | refine ⟨rfl, ?_⟩)⟩ (fun w hw => hw) (by omega)
  · exact s_leave1 rfl rfl (fun w hw => ⟨ret_int (surfaceIndex_none (fun i hi => hj.2 i (by omega))).symm, hw.below⟩)
theorem c_isOpaquePixel (p : Int) (w : World) : SYields Try.prog 103 #[.int .i64 p] (.bool (decide (opaqueP p))) w := by
  (first | apply SYields.mk | apply SYieldsF.mk | skip); refine s_enter Try.func103 rfl Try.ntmps103 rfl ?_
  repeat' (first | exact rfl | (apply kO; (first | exact ov_pure rfl | (apply kOBin; (first | exact aBin)) | (apply kOCall; (first | (apply kCallF; (first | exact (ov_call rfl (fun w hw => c_isPixel _ w)) | exact (ov_call rfl (fun w hw => c_channel _ _ w (by omega))))) | (apply kCallB; (first | exact aBlt | exact aLenR)))) | (apply kOLoad; (first | exact aLdF | exact aLdR)) | exact ov_fieldAddr rfl | (apply kOIdx; (first | exact aIdx)) | exact aRest | exact aNew | exact (ov_field1 (ft := 37) rfl rfl rfl rfl))) | (refine kN ?_; (first | (refine kStore ?_; (first | refine s_store1 _ rfl rfl gpA rfl (by rfl) ?_ | refine s_storeS _ rfl rfl gpA rfl rfl (by rfl) ?_ | refine s_storeS _ rfl rfl gpA rfl (ones_img oiA) (by rfl) ?_)) | refine s_boxS rfl rfl (fun b hb => ?_) | refine s_allocS rfl (fun b hb => ?_) | refine s_box1 rfl rfl rfl (fun b hb => ?_) | refine s_alloc1 rfl rfl (fun b hb => ?_) | refine s_buildSlice0 rfl (fun b hb => ?_) | refine s_buildSlice rfl rfl rfl rfl rfl (fun b hb => ?_) | apply s_step)) | (refine kG ?_; (first | refine s_gyes rfl rfl rfl ?_ | refine s_gno rfl rfl rfl rfl rfl ?_ | ((first | refine s_split_d rfl rfl (fun h => ?_) (fun h => ?_) | refine s_split_n rfl rfl (fun h => ?_) (fun h => ?_)) <;> (try (first | contradiction | (exfalso; omega)))) | refine s_split_nb rfl rfl (fun h => ?_) (fun h => ?_) | refine s_split rfl rfl (fun h => ?_) (fun h => ?_))) | refine l_then ?_ | (refine kC ?_; (first | refine c_seq ?_ | refine c_regionN rfl ?_ | refine c_ret ?_ | (refine kCond ?_; (first | refine c_cond_t rfl ?_ | refine c_cond_f rfl ?_ | ((first | refine c_cond_d rfl (fun h => ?_) (fun h => ?_) | refine c_cond_n rfl (fun h => ?_) (fun h => ?_)) <;> (try (first | contradiction | (exfalso; omega)))) | refine c_cond_nb rfl (fun h => ?_) (fun h => ?_) | refine c_cond rfl (fun h => ?_) (fun h => ?_))) | refine c_block ?_ | refine c_skip ?_ | refine c_exit ?_ | refine c_regionQN rfl rfl (by decide +kernel) ?_)) | apply s_stepQ | (refine kQG ?_; (first | refine s_gyesQ rfl rfl rfl ?_ | refine s_gnoQ rfl rfl rfl rfl rfl ?_ | ((first | refine s_splitQ_d rfl rfl (fun h => ?_) (fun h => ?_) | refine s_splitQ_n rfl rfl (fun h => ?_) (fun h => ?_)) <;> (try (first | contradiction | (exfalso; omega)))) | refine s_splitQ_nb rfl rfl (fun h => ?_) (fun h => ?_) | refine s_splitQ rfl rfl (fun h => ?_) (fun h => ?_))) | refine lQ_then ?_ | refine lQ_ends ?_ | (refine kE ?_; (first | refine e_then_r ?_ | refine e_block_r ?_ | refine e_then_n ?_ | refine e_then_x ?_ | refine e_block_n ?_ | refine e_block_x ?_ | refine e_block_y rfl ?_)) | refine l_ends ?_)
  all_goals refine s_leave1 rfl rfl (fun w hw => ⟨?_, hw.below⟩)
  all_goals first | (refine ret_false (fun hh => ?_); unfold opaqueP pixP at hh; omega) | exact ret_dec ⟨fun hh => ⟨by unfold pixP; omega, hh⟩, fun hh => hh.2⟩
theorem c_l10Opaque (p : Int) (w : World) : SYields Try.prog 156 #[.int .i64 p] (.bool (decide (opaqueP p))) w := by
  (first | apply SYields.mk | apply SYieldsF.mk | skip); refine s_enter Try.func156 rfl Try.ntmps156 rfl ?_
  repeat' (first | exact rfl | (apply kO; (first | exact ov_pure rfl | (apply kOBin; (first | exact aBin)) | (apply kOCall; (first | (apply kCallF; (first | exact (ov_call rfl (fun w hw => c_l04Pixel _ w)) | exact (ov_call rfl (fun w hw => c_schannelIn _ _ w (by omega) (by omega))))) | (apply kCallB; (first | exact aBlt | exact aLenR)))) | (apply kOLoad; (first | exact aLdF | exact aLdR)) | exact ov_fieldAddr rfl | (apply kOIdx; (first | exact aIdx)) | exact aRest | exact aNew | exact (ov_field1 (ft := 37) rfl rfl rfl rfl))) | (refine kN ?_; (first | (refine kStore ?_; (first | refine s_store1 _ rfl rfl gpA rfl (by rfl) ?_ | refine s_storeS _ rfl rfl gpA rfl rfl (by rfl) ?_ | refine s_storeS _ rfl rfl gpA rfl (ones_img oiA) (by rfl) ?_)) | refine s_boxS rfl rfl (fun b hb => ?_) | refine s_allocS rfl (fun b hb => ?_) | refine s_box1 rfl rfl rfl (fun b hb => ?_) | refine s_alloc1 rfl rfl (fun b hb => ?_) | refine s_buildSlice0 rfl (fun b hb => ?_) | refine s_buildSlice rfl rfl rfl rfl rfl (fun b hb => ?_) | apply s_step)) | (refine kG ?_; (first | refine s_gyes rfl rfl rfl ?_ | refine s_gno rfl rfl rfl rfl rfl ?_ | ((first | refine s_split_d rfl rfl (fun h => ?_) (fun h => ?_) | refine s_split_n rfl rfl (fun h => ?_) (fun h => ?_)) <;> (try (first | contradiction | (exfalso; omega)))) | refine s_split_nb rfl rfl (fun h => ?_) (fun h => ?_) | refine s_split rfl rfl (fun h => ?_) (fun h => ?_))) | refine l_then ?_ | (refine kC ?_; (first | refine c_seq ?_ | refine c_regionN rfl ?_ | refine c_ret ?_ | (refine kCond ?_; (first | refine c_cond_t rfl ?_ | refine c_cond_f rfl ?_ | ((first | refine c_cond_d rfl (fun h => ?_) (fun h => ?_) | refine c_cond_n rfl (fun h => ?_) (fun h => ?_)) <;> (try (first | contradiction | (exfalso; omega)))) | refine c_cond_nb rfl (fun h => ?_) (fun h => ?_) | refine c_cond rfl (fun h => ?_) (fun h => ?_))) | refine c_block ?_ | refine c_skip ?_ | refine c_exit ?_ | refine c_regionQN rfl rfl (by decide +kernel) ?_)) | apply s_stepQ | (refine kQG ?_; (first | refine s_gyesQ rfl rfl rfl ?_ | refine s_gnoQ rfl rfl rfl rfl rfl ?_ | ((first | refine s_splitQ_d rfl rfl (fun h => ?_) (fun h => ?_) | refine s_splitQ_n rfl rfl (fun h => ?_) (fun h => ?_)) <;> (try (first | contradiction | (exfalso; omega)))) | refine s_splitQ_nb rfl rfl (fun h => ?_) (fun h => ?_) | refine s_splitQ rfl rfl (fun h => ?_) (fun h => ?_))) | refine lQ_then ?_ | refine lQ_ends ?_ | (refine kE ?_; (first | refine e_then_r ?_ | refine e_block_r ?_ | refine e_then_n ?_ | refine e_then_x ?_ | refine e_block_n ?_ | refine e_block_x ?_ | refine e_block_y rfl ?_)) | refine l_ends ?_)
  all_goals refine s_leave1 rfl rfl (fun w hw => ⟨?_, hw.below⟩)
  all_goals first | (refine ret_false (fun hh => ?_); unfold opaqueP pixP at hh; omega) | exact ret_dec ⟨fun hh => ⟨by unfold pixP; omega, hh⟩, fun hh => hh.2⟩
theorem c_isceneOk (s : DScene) (v : Value) (w : World) (hv : RS eSurf w v s.ss) : SYields Try.prog 36 #[vScene s v] (.bool (decide s.ok)) w := by
  have hv' := hv.form
  obtain ⟨_, _, rfl⟩ := hv'
  obtain ⟨ds, hv⟩ := hv
  have hl := hv.row.len
  have hf := fun i => (hv.rd i)
  (first | apply SYields.mk | apply SYieldsF.mk | skip); refine s_enter Try.func36 rfl Try.ntmps36 rfl ?_
  repeat' (first | exact rfl | (apply kO; (first | exact ov_pure rfl | (apply kOBin; (first | exact aBin)) | (apply kOCall; (first | (apply kCallF; (first | exact (ov_call rfl (fun w hw => c_isSide _ w)) | exact (ov_call rfl (fun w hw => c_isOpaquePixel _ w)) | exact (ov_call rfl (fun w hw => c_isurfaceOk _ _ w (RInts.keep (hv.rd _ (by omega)) (hw.cells rfl)))))) | (apply kCallB; (first | exact aBlt | exact aLenR)))) | (apply kOLoad; (first | exact aLdF | exact aLdR)) | exact ov_fieldAddr rfl | (apply kOIdx; (first | exact aIdx)) | exact aRest | (apply kLookup; exact (ov_lookupB rfl rfl gpA)) | exact aNew | exact (ov_field1 (ft := 37) rfl rfl rfl rfl))) | (refine kN ?_; (first | (refine kStore ?_; (first | (refine s_storeS _ rfl rfl gpA rfl (eSurf_ones (RInts.one (hv.rd _ (by omega)))) (by rfl) ?_) | refine s_store1 _ rfl rfl gpA rfl (by rfl) ?_ | refine s_storeS _ rfl rfl gpA rfl rfl (by rfl) ?_ | refine s_storeS _ rfl rfl gpA rfl (ones_img oiA) (by rfl) ?_)) | refine s_boxS rfl rfl (fun b hb => ?_) | refine s_allocS rfl (fun b hb => ?_) | refine s_box1 rfl rfl rfl (fun b hb => ?_) | refine s_alloc1 rfl rfl (fun b hb => ?_) | (refine s_makeMap rfl (fun b hb => ?_)) | (refine kWMap ?_; (refine s_mapUpdateB _ rfl rfl rfl gpA (by assumption) ?_)) | refine s_buildSlice0 rfl (fun b hb => ?_) | refine s_buildSlice rfl rfl rfl rfl rfl (fun b hb => ?_) | apply s_step)) | (refine kG ?_; (first | refine s_gyes rfl rfl rfl ?_ | refine s_gno rfl rfl rfl rfl rfl ?_ | ((first | refine s_split_d rfl rfl (fun h => ?_) (fun h => ?_) | refine s_split_n rfl rfl (fun h => ?_) (fun h => ?_)) <;> (try (first | contradiction | (exfalso; omega)))) | refine s_split_nb rfl rfl (fun h => ?_) (fun h => ?_) | refine s_split rfl rfl (fun h => ?_) (fun h => ?_))) | refine l_then ?_ | (refine kC ?_; (first | (refine c_loopV (ι := Nat) (fun j => j ≤ s.ss.length ∧ surfsOk s.ss j) (fun j => [(32, .int .i64 (j : Int))]) (fun j => [[(b, mobj (idsTo s.ss j))], _]) (fun j => s.ss.length - j) 0 ⟨by omega, surfsOk_zero _⟩ rfl (fun _ => rfl) ⟨rfl, trivial⟩ (fun w hw => hw) (fun j hj => ?_)) | refine c_seq ?_ | refine c_regionN rfl ?_ | refine c_ret ?_ | (refine kCond ?_; (first | refine c_cond_t rfl ?_ | refine c_cond_f rfl ?_ | ((first | refine c_cond_d rfl (fun h => ?_) (fun h => ?_) | refine c_cond_n rfl (fun h => ?_) (fun h => ?_)) <;> (try (first | contradiction | (exfalso; omega)))) | refine c_cond_nb rfl (fun h => ?_) (fun h => ?_) | refine c_cond rfl (fun h => ?_) (fun h => ?_))) | refine c_block ?_ | refine c_skip ?_ | refine c_exit ?_ | refine c_regionQN rfl rfl (by decide +kernel) ?_)) | apply s_stepQ | (refine kQG ?_; (first | refine s_gyesQ rfl rfl rfl ?_ | refine s_gnoQ rfl rfl rfl rfl rfl ?_ | ((first | refine s_splitQ_d rfl rfl (fun h => ?_) (fun h => ?_) | refine s_splitQ_n rfl rfl (fun h => ?_) (fun h => ?_)) <;> (try (first | contradiction | (exfalso; omega)))) | refine s_splitQ_nb rfl rfl (fun h => ?_) (fun h => ?_) | refine s_splitQ rfl rfl (fun h => ?_) (fun h => ?_))) | refine lQ_then ?_ | refine lQ_ends ?_ | (refine kE ?_; (first | refine e_then_r ?_ | refine e_block_r ?_ | refine e_then_n ?_ | refine e_then_x ?_ | refine e_block_n ?_ | refine e_block_x ?_ | refine e_block_y rfl ?_)) | refine l_ends ?_)
  all_goals try simp only [Int.toNat_natCast, eSurf_dflt] at *
  any_goals (exact e_round (j + 1) ⟨by omega, surfsOk_next hj.2 (by assumption) (fun i hi he => absurd (mem_idsTo.2 ⟨i, hi, he⟩) (by assumption))⟩ ⟨rfl, (by repeat' first | exact trivial | refine ⟨rfl, ?_⟩)⟩ (fun w hw => by simp only [idsTo_succ]; exact hw.sub (by repeat' first | exact List.nil_sublist _ | exact List.Sublist.slnil | refine List.Sublist.cons_cons _ ?_ | refine List.Sublist.cons _ ?_)) (by omega))
  all_goals refine s_leave1 rfl rfl (fun w hw => ⟨?_, hw.below⟩)
  all_goals first | exact ret_true ⟨by assumption, by assumption, by assumption, by omega, fun q hq => hj.2 q (by omega)⟩ | (refine ret_false (fun hh => ?_); obtain ⟨h1, h2, h3, h4, h5⟩ := hh; first | contradiction | omega | exact absurd (h5 j (by omega)).1 (by assumption) | (obtain ⟨i, hi, he⟩ := mem_idsTo.1 (show (s.ss.getD j default).Id ∈ idsTo s.ss j by assumption); exact (h5 j (by omega)).2 i hi he))
theorem c_ssceneOk (s : DScene) (v : Value) (w : World) (hv : RS eSurf w v s.ss) : SYields Try.prog 84 #[vScene s v] (.bool (decide s.ok)) w := by
  have hve := hv
  obtain ⟨ds, hv⟩ := hv
  have hl := hv.row.len
  (first | apply SYields.mk | apply SYieldsF.mk | skip); refine s_enter Try.func84 rfl Try.ntmps84 rfl ?_
  repeat' (first | exact rfl | (apply kO; (first | exact ov_pure rfl | (apply kOBin; (first | exact aBin)) | (apply kOCall; (first | (apply kCallF; (first | exact (ov_call rfl (fun w hw => c_l01In _ _ _ w)) | exact (ov_call rfl (fun w hw => c_l10Opaque _ w)) | exact (ov_call rfl (fun w hw => c_ssurfaceOk _ _ w (RInts.keep (hv.rd _ (by omega)) (hw.cells rfl)))) | exact (ov_call rfl (fun w hw => c_ssurfaceIndex _ _ _ w (hve.keep (hw.cells rfl)))))) | (apply kCallB; (first | exact aBlt | exact aLenR)))) | (apply kOLoad; (first | exact aLdF | exact aLdR)) | exact ov_fieldAddr rfl | (apply kOIdx; (first | exact aIdx)) | exact aRest | exact aNew | exact (ov_field1 (ft := 37) rfl rfl rfl rfl))) | (refine kN ?_; (first | (refine kStore ?_; (first | refine s_store1 _ rfl rfl gpA rfl (by rfl) ?_ | refine s_storeS _ rfl rfl gpA rfl rfl (by rfl) ?_ | refine s_storeS _ rfl rfl gpA rfl (ones_img oiA) (by rfl) ?_)) | refine s_boxS rfl rfl (fun b hb => ?_) | refine s_allocS rfl (fun b hb => ?_) | refine s_box1 rfl rfl rfl (fun b hb => ?_) | refine s_alloc1 rfl rfl (fun b hb => ?_) | refine s_buildSlice0 rfl (fun b hb => ?_) | refine s_buildSlice rfl rfl rfl rfl rfl (fun b hb => ?_) | apply s_step)) | (refine kG ?_; (first | refine s_gyes rfl rfl rfl ?_ | refine s_gno rfl rfl rfl rfl rfl ?_ | ((first | refine s_split_d rfl rfl (fun h => ?_) (fun h => ?_) | refine s_split_n rfl rfl (fun h => ?_) (fun h => ?_)) <;> (try (first | contradiction | (exfalso; omega)))) | refine s_split_nb rfl rfl (fun h => ?_) (fun h => ?_) | refine s_split rfl rfl (fun h => ?_) (fun h => ?_))) | refine l_then ?_ | (refine kC ?_; (first | (refine c_loopV (ι := Nat) (fun j => j ≤ s.ss.length ∧ surfsOk s.ss j) (fun j => [(3, .int .i64 (j : Int))]) (fun j => [_]) (fun j => s.ss.length - j) 0 ⟨by omega, surfsOk_zero _⟩ rfl (fun _ => rfl) ⟨rfl, trivial⟩ (fun w hw => hw) (fun j hj => ?_)) | refine c_seq ?_ | refine c_regionN rfl ?_ | refine c_ret ?_ | (refine kCond ?_; (first | refine c_cond_t rfl ?_ | refine c_cond_f rfl ?_ | ((first | refine c_cond_d rfl (fun h => ?_) (fun h => ?_) | refine c_cond_n rfl (fun h => ?_) (fun h => ?_)) <;> (try (first | contradiction | (exfalso; omega)))) | refine c_cond_nb rfl (fun h => ?_) (fun h => ?_) | refine c_cond rfl (fun h => ?_) (fun h => ?_))) | refine c_block ?_ | refine c_skip ?_ | refine c_exit ?_ | refine c_regionQN rfl rfl (by decide +kernel) ?_)) | apply s_stepQ | (refine kQG ?_; (first | refine s_gyesQ rfl rfl rfl ?_ | refine s_gnoQ rfl rfl rfl rfl rfl ?_ | ((first | refine s_splitQ_d rfl rfl (fun h => ?_) (fun h => ?_) | refine s_splitQ_n rfl rfl (fun h => ?_) (fun h => ?_)) <;> (try (first | contradiction | (exfalso; omega)))) | refine s_splitQ_nb rfl rfl (fun h => ?_) (fun h => ?_) | refine s_splitQ rfl rfl (fun h => ?_) (fun h => ?_))) | refine lQ_then ?_ | refine lQ_ends ?_ | (refine kE ?_; (first | refine e_then_r ?_ | refine e_block_r ?_ | refine e_then_n ?_ | refine e_then_x ?_ | refine e_block_n ?_ | refine e_block_x ?_ | refine e_block_y rfl ?_)) | refine l_ends ?_)
  all_goals try simp only [Int.toNat_natCast, eSurf_dflt] at *
  all_goals try (exact e_round (j + 1) ⟨by omega, surfsOk_next hj.2 (by assumption) ((surfaceIndex_self (by omega)).1 (by omega))⟩ ⟨rfl, (by repeat' first | exact trivial | refine ⟨rfl, ?_⟩)⟩ (fun w hw => hw) (by omega))
  all_goals refine s_leave1 rfl rfl (fun w hw => ⟨?_, hw.below⟩)
  all_goals first | exact ret_true ⟨by assumption, by assumption, by assumption, by omega, fun q hq => hj.2 q (by omega)⟩ | (refine ret_false (fun hh => ?_); obtain ⟨h1, h2, h3, h4, h5⟩ := hh; first | contradiction | omega | exact absurd (h5 j (by omega)).1 (by assumption) | exact absurd ((surfaceIndex_self (by omega)).2 (h5 j (by omega)).2) (by assumption))
end Go.Proofs.Ytakijgpoaeggnaa
/-
  Contracts: rectangles; the place of a surface; what painting costs.
-/
set_option linter.unusedVariables false
namespace Go.Proofs.Ytakijgpoaeggnaa
open Go Sx
attribute [local irreducible] Exit.then Exit.inBlock bodyPost
theorem c_irectOk (r : DRect) (w : World) : SYields Try.prog 113 #[vRect r] (.bool (decide r.ok)) w := by
  (first | apply SYields.mk | apply SYieldsF.mk | skip); refine s_enter Try.func113 rfl Try.ntmps113 rfl ?_
  repeat' (first | exact rfl | (apply kO; (first | exact ov_pure rfl | (apply kOBin; (first | exact aBin)) | (apply kOCall; (first | (apply kCallF; (first | exact (ov_call rfl (fun w hw => c_within _ _ _ w)))) | (apply kCallB; (first | exact aBlt | exact aLenR)))) | (apply kOLoad; (first | exact aLdF | exact aLdR)) | exact ov_fieldAddr rfl | (apply kOIdx; (first | exact aIdx)) | exact aRest | exact aNew | exact (ov_field1 (ft := 37) rfl rfl rfl rfl))) | (refine kN ?_; (first | (refine kStore ?_; (first | refine s_store1 _ rfl rfl gpA rfl (by rfl) ?_ | refine s_storeS _ rfl rfl gpA rfl rfl (by rfl) ?_ | refine s_storeS _ rfl rfl gpA rfl (ones_img oiA) (by rfl) ?_)) | refine s_boxS rfl rfl (fun b hb => ?_) | refine s_allocS rfl (fun b hb => ?_) | refine s_box1 rfl rfl rfl (fun b hb => ?_) | refine s_alloc1 rfl rfl (fun b hb => ?_) | refine s_buildSlice0 rfl (fun b hb => ?_) | refine s_buildSlice rfl rfl rfl rfl rfl (fun b hb => ?_) | apply s_step)) | (refine kG ?_; (first | refine s_gyes rfl rfl rfl ?_ | refine s_gno rfl rfl rfl rfl rfl ?_ | ((first | refine s_split_d rfl rfl (fun h => ?_) (fun h => ?_) | refine s_split_n rfl rfl (fun h => ?_) (fun h => ?_)) <;> (try (first | contradiction | (exfalso; omega)))) | refine s_split_nb rfl rfl (fun h => ?_) (fun h => ?_) | refine s_split rfl rfl (fun h => ?_) (fun h => ?_))) | refine l_then ?_ | (refine kC ?_; (first | refine c_seq ?_ | refine c_regionN rfl ?_ | refine c_ret ?_ | (refine kCond ?_; (first | refine c_cond_t rfl ?_ | refine c_cond_f rfl ?_ | ((first | refine c_cond_d rfl (fun h => ?_) (fun h => ?_) | refine c_cond_n rfl (fun h => ?_) (fun h => ?_)) <;> (try (first | contradiction | (exfalso; omega)))) | refine c_cond_nb rfl (fun h => ?_) (fun h => ?_) | refine c_cond rfl (fun h => ?_) (fun h => ?_))) | refine c_block ?_ | refine c_skip ?_ | refine c_exit ?_ | refine c_regionQN rfl rfl (by decide +kernel) ?_)) | apply s_stepQ | (refine kQG ?_; (first | refine s_gyesQ rfl rfl rfl ?_ | refine s_gnoQ rfl rfl rfl rfl rfl ?_ | ((first | refine s_splitQ_d rfl rfl (fun h => ?_) (fun h => ?_) | refine s_splitQ_n rfl rfl (fun h => ?_) (fun h => ?_)) <;> (try (first | contradiction | (exfalso; omega)))) | refine s_splitQ_nb rfl rfl (fun h => ?_) (fun h => ?_) | refine s_splitQ rfl rfl (fun h => ?_) (fun h => ?_))) | refine lQ_then ?_ | refine lQ_ends ?_ | (refine kE ?_; (first | refine e_then_r ?_ | refine e_block_r ?_ | refine e_then_n ?_ | refine e_then_x ?_ | refine e_block_n ?_ | refine e_block_x ?_ | refine e_block_y rfl ?_)) | refine l_ends ?_)
  all_goals refine s_leave1 rfl rfl (fun w hw => ⟨?_, hw.below⟩)
  all_goals first | (refine ret_false (fun hh => ?_); unfold DRect.ok at hh; omega) | exact ret_dec (by unfold DRect.ok; omega)
theorem c_srectOk (r : DRect) (w : World) : SYields Try.prog 188 #[vRect r] (.bool (decide r.ok)) w := by
  (first | apply SYields.mk | apply SYieldsF.mk | skip); refine s_enter Try.func188 rfl Try.ntmps188 rfl ?_
  repeat' (first | exact rfl | (apply kO; (first | exact ov_pure rfl | (apply kOBin; (first | exact aBin)) | (apply kOCall; (first | (apply kCallF; (first | exact (ov_call rfl (fun w hw => c_l01In _ _ _ w)))) | (apply kCallB; (first | exact aBlt | exact aLenR)))) | (apply kOLoad; (first | exact aLdF | exact aLdR)) | exact ov_fieldAddr rfl | (apply kOIdx; (first | exact aIdx)) | exact aRest | exact aNew | exact (ov_field1 (ft := 37) rfl rfl rfl rfl))) | (refine kN ?_; (first | (refine kStore ?_; (first | refine s_store1 _ rfl rfl gpA rfl (by rfl) ?_ | refine s_storeS _ rfl rfl gpA rfl rfl (by rfl) ?_ | refine s_storeS _ rfl rfl gpA rfl (ones_img oiA) (by rfl) ?_)) | refine s_boxS rfl rfl (fun b hb => ?_) | refine s_allocS rfl (fun b hb => ?_) | refine s_box1 rfl rfl rfl (fun b hb => ?_) | refine s_alloc1 rfl rfl (fun b hb => ?_) | refine s_buildSlice0 rfl (fun b hb => ?_) | refine s_buildSlice rfl rfl rfl rfl rfl (fun b hb => ?_) | apply s_step)) | (refine kG ?_; (first | refine s_gyes rfl rfl rfl ?_ | refine s_gno rfl rfl rfl rfl rfl ?_ | ((first | refine s_split_d rfl rfl (fun h => ?_) (fun h => ?_) | refine s_split_n rfl rfl (fun h => ?_) (fun h => ?_)) <;> (try (first | contradiction | (exfalso; omega)))) | refine s_split_nb rfl rfl (fun h => ?_) (fun h => ?_) | refine s_split rfl rfl (fun h => ?_) (fun h => ?_))) | refine l_then ?_ | (refine kC ?_; (first | refine c_seq ?_ | refine c_regionN rfl ?_ | refine c_ret ?_ | (refine kCond ?_; (first | refine c_cond_t rfl ?_ | refine c_cond_f rfl ?_ | ((first | refine c_cond_d rfl (fun h => ?_) (fun h => ?_) | refine c_cond_n rfl (fun h => ?_) (fun h => ?_)) <;> (try (first | contradiction | (exfalso; omega)))) | refine c_cond_nb rfl (fun h => ?_) (fun h => ?_) | refine c_cond rfl (fun h => ?_) (fun h => ?_))) | refine c_block ?_ | refine c_skip ?_ | refine c_exit ?_ | refine c_regionQN rfl rfl (by decide +kernel) ?_)) | apply s_stepQ | (refine kQG ?_; (first | refine s_gyesQ rfl rfl rfl ?_ | refine s_gnoQ rfl rfl rfl rfl rfl ?_ | ((first | refine s_splitQ_d rfl rfl (fun h => ?_) (fun h => ?_) | refine s_splitQ_n rfl rfl (fun h => ?_) (fun h => ?_)) <;> (try (first | contradiction | (exfalso; omega)))) | refine s_splitQ_nb rfl rfl (fun h => ?_) (fun h => ?_) | refine s_splitQ rfl rfl (fun h => ?_) (fun h => ?_))) | refine lQ_then ?_ | refine lQ_ends ?_ | (refine kE ?_; (first | refine e_then_r ?_ | refine e_block_r ?_ | refine e_then_n ?_ | refine e_then_x ?_ | refine e_block_n ?_ | refine e_block_x ?_ | refine e_block_y rfl ?_)) | refine l_ends ?_)
  all_goals refine s_leave1 rfl rfl (fun w hw => ⟨?_, hw.below⟩)
  all_goals first | (refine ret_false (fun hh => ?_); unfold DRect.ok at hh; omega) | exact ret_dec (by unfold DRect.ok; omega)
theorem ret_rectv {a b c d : Int} {q : DRect} (h : (⟨a, b, c, d⟩ : DRect) = q) : Ending.returned (.agg [Value.int .i64 a, .int .i64 b, .int .i64 c, .int .i64 d].toArray) = .returned (vRect q) := by rw [← h]
theorem c_iintersect (p q : DRect) (w : World) : SYields Try.prog 81 #[vRect p, vRect q] (vRect (p.inter q)) w := by
  by_cases hp : p.ok
  · by_cases hq : q.ok
    · have hp' := hp
      have hq' := hq
      unfold DRect.ok at hp' hq'
      (first | apply SYields.mk | apply SYieldsF.mk | skip); refine s_enter Try.func81 rfl Try.ntmps81 rfl ?_
      repeat' (first | exact rfl | (apply kO; (first | exact ov_pure rfl | (apply kOBin; (first | exact aBin)) | (apply kOCall; (first | (apply kCallF; (first | exact (ov_call rfl (fun w hw => c_irectOk _ w)))) | (apply kCallB; (first | exact aBlt | exact aLenR)))) | (apply kOLoad; (first | exact aLdF | exact aLdR)) | exact ov_fieldAddr rfl | (apply kOIdx; (first | exact aIdx)) | exact aRest | exact aNew | exact (ov_field1 (ft := 37) rfl rfl rfl rfl))) | (refine kN ?_; (first | (refine kStore ?_; (first | refine s_store1 _ rfl rfl gpA rfl (by rfl) ?_ | refine s_storeS _ rfl rfl gpA rfl rfl (by rfl) ?_ | refine s_storeS _ rfl rfl gpA rfl (ones_img oiA) (by rfl) ?_)) | refine s_boxS rfl rfl (fun b hb => ?_) | refine s_allocS rfl (fun b hb => ?_) | refine s_box1 rfl rfl rfl (fun b hb => ?_) | refine s_alloc1 rfl rfl (fun b hb => ?_) | refine s_buildSlice0 rfl (fun b hb => ?_) | refine s_buildSlice rfl rfl rfl rfl rfl (fun b hb => ?_) | apply s_step)) | (refine kG ?_; (first | refine s_gyes rfl rfl rfl ?_ | refine s_gno rfl rfl rfl rfl rfl ?_ | ((first | refine s_split_d rfl rfl (fun h => ?_) (fun h => ?_) | refine s_split_n rfl rfl (fun h => ?_) (fun h => ?_)) <;> (try (first | contradiction | (exfalso; omega)))) | refine s_split_nb rfl rfl (fun h => ?_) (fun h => ?_) | refine s_split rfl rfl (fun h => ?_) (fun h => ?_))) | refine l_then ?_ | (refine kC ?_; (first | refine c_seq ?_ | refine c_regionN rfl ?_ | refine c_ret ?_ | (refine kCond ?_; (first | refine c_cond_t rfl ?_ | refine c_cond_f rfl ?_ | ((first | refine c_cond_d rfl (fun h => ?_) (fun h => ?_) | refine c_cond_n rfl (fun h => ?_) (fun h => ?_)) <;> (try (first | contradiction | (exfalso; omega)))) | refine c_cond_nb rfl (fun h => ?_) (fun h => ?_) | refine c_cond rfl (fun h => ?_) (fun h => ?_))) | refine c_block ?_ | refine c_skip ?_ | refine c_exit ?_ | refine c_regionQN rfl rfl (by decide +kernel) ?_)) | apply s_stepQ | (refine kQG ?_; (first | refine s_gyesQ rfl rfl rfl ?_ | refine s_gnoQ rfl rfl rfl rfl rfl ?_ | ((first | refine s_splitQ_d rfl rfl (fun h => ?_) (fun h => ?_) | refine s_splitQ_n rfl rfl (fun h => ?_) (fun h => ?_)) <;> (try (first | contradiction | (exfalso; omega)))) | refine s_splitQ_nb rfl rfl (fun h => ?_) (fun h => ?_) | refine s_splitQ rfl rfl (fun h => ?_) (fun h => ?_))) | refine lQ_then ?_ | refine lQ_ends ?_ | (refine kE ?_; (first | refine e_then_r ?_ | refine e_block_r ?_ | refine e_then_n ?_ | refine e_then_x ?_ | refine e_block_n ?_ | refine e_block_x ?_ | refine e_block_y rfl ?_)) | refine l_ends ?_)
      all_goals (refine kE ?_; refine s_leaveSF rfl rfl rfl fwA (fun w hw => ?_))
      all_goals refine ⟨ret_rectv ?_, hw.below⟩
      all_goals (unfold DRect.inter; rw [if_pos ⟨hp, hq⟩]; first | rw [if_pos (by omega)]; rfl | rw [if_neg (by omega)])
    · (first | apply SYields.mk | apply SYieldsF.mk | skip); refine s_enter Try.func81 rfl Try.ntmps81 rfl ?_
      repeat' (first | exact rfl | (apply kO; (first | exact ov_pure rfl | (apply kOBin; (first | exact aBin)) | (apply kOCall; (first | (apply kCallF; (first | exact (ov_call rfl (fun w hw => c_irectOk _ w)))) | (apply kCallB; (first | exact aBlt | exact aLenR)))) | (apply kOLoad; (first | exact aLdF | exact aLdR)) | exact ov_fieldAddr rfl | (apply kOIdx; (first | exact aIdx)) | exact aRest | exact aNew | exact (ov_field1 (ft := 37) rfl rfl rfl rfl))) | (refine kN ?_; (first | (refine kStore ?_; (first | refine s_store1 _ rfl rfl gpA rfl (by rfl) ?_ | refine s_storeS _ rfl rfl gpA rfl rfl (by rfl) ?_ | refine s_storeS _ rfl rfl gpA rfl (ones_img oiA) (by rfl) ?_)) | refine s_boxS rfl rfl (fun b hb => ?_) | refine s_allocS rfl (fun b hb => ?_) | refine s_box1 rfl rfl rfl (fun b hb => ?_) | refine s_alloc1 rfl rfl (fun b hb => ?_) | refine s_buildSlice0 rfl (fun b hb => ?_) | refine s_buildSlice rfl rfl rfl rfl rfl (fun b hb => ?_) | apply s_step)) | (refine kG ?_; (first | refine s_gyes rfl rfl rfl ?_ | refine s_gno rfl rfl rfl rfl rfl ?_ | ((first | refine s_split_d rfl rfl (fun h => ?_) (fun h => ?_) | refine s_split_n rfl rfl (fun h => ?_) (fun h => ?_)) <;> (try (first | contradiction | (exfalso; omega)))) | refine s_split_nb rfl rfl (fun h => ?_) (fun h => ?_) | refine s_split rfl rfl (fun h => ?_) (fun h => ?_))) | refine l_then ?_ | (refine kC ?_; (first | refine c_seq ?_ | refine c_regionN rfl ?_ | refine c_ret ?_ | (refine kCond ?_; (first | refine c_cond_t rfl ?_ | refine c_cond_f rfl ?_ | ((first | refine c_cond_d rfl (fun h => ?_) (fun h => ?_) | refine c_cond_n rfl (fun h => ?_) (fun h => ?_)) <;> (try (first | contradiction | (exfalso; omega)))) | refine c_cond_nb rfl (fun h => ?_) (fun h => ?_) | refine c_cond rfl (fun h => ?_) (fun h => ?_))) | refine c_block ?_ | refine c_skip ?_ | refine c_exit ?_ | refine c_regionQN rfl rfl (by decide +kernel) ?_)) | apply s_stepQ | (refine kQG ?_; (first | refine s_gyesQ rfl rfl rfl ?_ | refine s_gnoQ rfl rfl rfl rfl rfl ?_ | ((first | refine s_splitQ_d rfl rfl (fun h => ?_) (fun h => ?_) | refine s_splitQ_n rfl rfl (fun h => ?_) (fun h => ?_)) <;> (try (first | contradiction | (exfalso; omega)))) | refine s_splitQ_nb rfl rfl (fun h => ?_) (fun h => ?_) | refine s_splitQ rfl rfl (fun h => ?_) (fun h => ?_))) | refine lQ_then ?_ | refine lQ_ends ?_ | (refine kE ?_; (first | refine e_then_r ?_ | refine e_block_r ?_ | refine e_then_n ?_ | refine e_then_x ?_ | refine e_block_n ?_ | refine e_block_x ?_ | refine e_block_y rfl ?_)) | refine l_ends ?_)
      all_goals (refine kE ?_; refine s_leaveSF rfl rfl rfl fwA (fun w hw => ?_))
      all_goals refine ⟨ret_rectv ?_, hw.below⟩
      all_goals (unfold DRect.inter; rw [if_neg (fun h => hq h.2)]; rfl)
  · (first | apply SYields.mk | apply SYieldsF.mk | skip); refine s_enter Try.func81 rfl Try.ntmps81 rfl ?_
    repeat' (first | exact rfl | (apply kO; (first | exact ov_pure rfl | (apply kOBin; (first | exact aBin)) | (apply kOCall; (first | (apply kCallF; (first | exact (ov_call rfl (fun w hw => c_irectOk _ w)))) | (apply kCallB; (first | exact aBlt | exact aLenR)))) | (apply kOLoad; (first | exact aLdF | exact aLdR)) | exact ov_fieldAddr rfl | (apply kOIdx; (first | exact aIdx)) | exact aRest | exact aNew | exact (ov_field1 (ft := 37) rfl rfl rfl rfl))) | (refine kN ?_; (first | (refine kStore ?_; (first | refine s_store1 _ rfl rfl gpA rfl (by rfl) ?_ | refine s_storeS _ rfl rfl gpA rfl rfl (by rfl) ?_ | refine s_storeS _ rfl rfl gpA rfl (ones_img oiA) (by rfl) ?_)) | refine s_boxS rfl rfl (fun b hb => ?_) | refine s_allocS rfl (fun b hb => ?_) | refine s_box1 rfl rfl rfl (fun b hb => ?_) | refine s_alloc1 rfl rfl (fun b hb => ?_) | refine s_buildSlice0 rfl (fun b hb => ?_) | refine s_buildSlice rfl rfl rfl rfl rfl (fun b hb => ?_) | apply s_step)) | (refine kG ?_; (first | refine s_gyes rfl rfl rfl ?_ | refine s_gno rfl rfl rfl rfl rfl ?_ | ((first | refine s_split_d rfl rfl (fun h => ?_) (fun h => ?_) | refine s_split_n rfl rfl (fun h => ?_) (fun h => ?_)) <;> (try (first | contradiction | (exfalso; omega)))) | refine s_split_nb rfl rfl (fun h => ?_) (fun h => ?_) | refine s_split rfl rfl (fun h => ?_) (fun h => ?_))) | refine l_then ?_ | (refine kC ?_; (first | refine c_seq ?_ | refine c_regionN rfl ?_ | refine c_ret ?_ | (refine kCond ?_; (first | refine c_cond_t rfl ?_ | refine c_cond_f rfl ?_ | ((first | refine c_cond_d rfl (fun h => ?_) (fun h => ?_) | refine c_cond_n rfl (fun h => ?_) (fun h => ?_)) <;> (try (first | contradiction | (exfalso; omega)))) | refine c_cond_nb rfl (fun h => ?_) (fun h => ?_) | refine c_cond rfl (fun h => ?_) (fun h => ?_))) | refine c_block ?_ | refine c_skip ?_ | refine c_exit ?_ | refine c_regionQN rfl rfl (by decide +kernel) ?_)) | apply s_stepQ | (refine kQG ?_; (first | refine s_gyesQ rfl rfl rfl ?_ | refine s_gnoQ rfl rfl rfl rfl rfl ?_ | ((first | refine s_splitQ_d rfl rfl (fun h => ?_) (fun h => ?_) | refine s_splitQ_n rfl rfl (fun h => ?_) (fun h => ?_)) <;> (try (first | contradiction | (exfalso; omega)))) | refine s_splitQ_nb rfl rfl (fun h => ?_) (fun h => ?_) | refine s_splitQ rfl rfl (fun h => ?_) (fun h => ?_))) | refine lQ_then ?_ | refine lQ_ends ?_ | (refine kE ?_; (first | refine e_then_r ?_ | refine e_block_r ?_ | refine e_then_n ?_ | refine e_then_x ?_ | refine e_block_n ?_ | refine e_block_x ?_ | refine e_block_y rfl ?_)) | refine l_ends ?_)
    all_goals (refine kE ?_; refine s_leaveSF rfl rfl rfl fwA (fun w hw => ?_))
    all_goals refine ⟨ret_rectv ?_, hw.below⟩
    all_goals (unfold DRect.inter; rw [if_neg (fun h => hp h.1)]; rfl)
theorem c_sintersect (p q : DRect) (w : World) : SYields Try.prog 145 #[vRect p, vRect q] (vRect (p.inter q)) w := by
  by_cases hp : p.ok
  · by_cases hq : q.ok
    · have hp' := hp
      have hq' := hq
      unfold DRect.ok at hp' hq'
      (first | apply SYields.mk | apply SYieldsF.mk | skip); refine s_enter Try.func145 rfl Try.ntmps145 rfl ?_
      repeat' (first | exact rfl | (apply kO; (first | exact ov_pure rfl | (apply kOBin; (first | exact aBin)) | (apply kOCall; (first | (apply kCallF; (first | exact (ov_call rfl (fun w hw => c_srectOk _ w)))) | (apply kCallB; (first | exact aBlt | exact aLenR)))) | (apply kOLoad; (first | exact aLdF | exact aLdR)) | exact ov_fieldAddr rfl | (apply kOIdx; (first | exact aIdx)) | exact aRest | exact aNew | exact (ov_field1 (ft := 37) rfl rfl rfl rfl))) | (refine kN ?_; (first | (refine kStore ?_; (first | refine s_store1 _ rfl rfl gpA rfl (by rfl) ?_ | refine s_storeS _ rfl rfl gpA rfl rfl (by rfl) ?_ | refine s_storeS _ rfl rfl gpA rfl (ones_img oiA) (by rfl) ?_)) | refine s_boxS rfl rfl (fun b hb => ?_) | refine s_allocS rfl (fun b hb => ?_) | refine s_box1 rfl rfl rfl (fun b hb => ?_) | refine s_alloc1 rfl rfl (fun b hb => ?_) | refine s_buildSlice0 rfl (fun b hb => ?_) | refine s_buildSlice rfl rfl rfl rfl rfl (fun b hb => ?_) | apply s_step)) | (refine kG ?_; (first | refine s_gyes rfl rfl rfl ?_ | refine s_gno rfl rfl rfl rfl rfl ?_ | ((first | refine s_split_d rfl rfl (fun h => ?_) (fun h => ?_) | refine s_split_n rfl rfl (fun h => ?_) (fun h => ?_)) <;> (try (first | contradiction | (exfalso; omega)))) | refine s_split_nb rfl rfl (fun h => ?_) (fun h => ?_) | refine s_split rfl rfl (fun h => ?_) (fun h => ?_))) | refine l_then ?_ | (refine kC ?_; (first | refine c_seq ?_ | refine c_regionN rfl ?_ | refine c_ret ?_ | (refine kCond ?_; (first | refine c_cond_t rfl ?_ | refine c_cond_f rfl ?_ | ((first | refine c_cond_d rfl (fun h => ?_) (fun h => ?_) | refine c_cond_n rfl (fun h => ?_) (fun h => ?_)) <;> (try (first | contradiction | (exfalso; omega)))) | refine c_cond_nb rfl (fun h => ?_) (fun h => ?_) | refine c_cond rfl (fun h => ?_) (fun h => ?_))) | refine c_block ?_ | refine c_skip ?_ | refine c_exit ?_ | refine c_regionQN rfl rfl (by decide +kernel) ?_)) | apply s_stepQ | (refine kQG ?_; (first | refine s_gyesQ rfl rfl rfl ?_ | refine s_gnoQ rfl rfl rfl rfl rfl ?_ | ((first | refine s_splitQ_d rfl rfl (fun h => ?_) (fun h => ?_) | refine s_splitQ_n rfl rfl (fun h => ?_) (fun h => ?_)) <;> (try (first | contradiction | (exfalso; omega)))) | refine s_splitQ_nb rfl rfl (fun h => ?_) (fun h => ?_) | refine s_splitQ rfl rfl (fun h => ?_) (fun h => ?_))) | refine lQ_then ?_ | refine lQ_ends ?_ | (refine kE ?_; (first | refine e_then_r ?_ | refine e_block_r ?_ | refine e_then_n ?_ | refine e_then_x ?_ | refine e_block_n ?_ | refine e_block_x ?_ | refine e_block_y rfl ?_)) | refine l_ends ?_)
      all_goals (refine kE ?_; refine s_leaveSF rfl rfl rfl fwA (fun w hw => ?_))
      all_goals refine ⟨ret_rectv ?_, hw.below⟩
      all_goals (unfold DRect.inter; rw [if_pos ⟨hp, hq⟩]; first | rw [if_pos (by omega)]; rfl | rw [if_neg (by omega)])
    · (first | apply SYields.mk | apply SYieldsF.mk | skip); refine s_enter Try.func145 rfl Try.ntmps145 rfl ?_
      repeat' (first | exact rfl | (apply kO; (first | exact ov_pure rfl | (apply kOBin; (first | exact aBin)) | (apply kOCall; (first | (apply kCallF; (first | exact (ov_call rfl (fun w hw => c_srectOk _ w)))) | (apply kCallB; (first | exact aBlt | exact aLenR)))) | (apply kOLoad; (first | exact aLdF | exact aLdR)) | exact ov_fieldAddr rfl | (apply kOIdx; (first | exact aIdx)) | exact aRest | exact aNew | exact (ov_field1 (ft := 37) rfl rfl rfl rfl))) | (refine kN ?_; (first | (refine kStore ?_; (first | refine s_store1 _ rfl rfl gpA rfl (by rfl) ?_ | refine s_storeS _ rfl rfl gpA rfl rfl (by rfl) ?_ | refine s_storeS _ rfl rfl gpA rfl (ones_img oiA) (by rfl) ?_)) | refine s_boxS rfl rfl (fun b hb => ?_) | refine s_allocS rfl (fun b hb => ?_) | refine s_box1 rfl rfl rfl (fun b hb => ?_) | refine s_alloc1 rfl rfl (fun b hb => ?_) | refine s_buildSlice0 rfl (fun b hb => ?_) | refine s_buildSlice rfl rfl rfl rfl rfl (fun b hb => ?_) | apply s_step)) | (refine kG ?_; (first | refine s_gyes rfl rfl rfl ?_ | refine s_gno rfl rfl rfl rfl rfl ?_ | ((first | refine s_split_d rfl rfl (fun h => ?_) (fun h => ?_) | refine s_split_n rfl rfl (fun h => ?_) (fun h => ?_)) <;> (try (first | contradiction | (exfalso; omega)))) | refine s_split_nb rfl rfl (fun h => ?_) (fun h => ?_) | refine s_split rfl rfl (fun h => ?_) (fun h => ?_))) | refine l_then ?_ | (refine kC ?_; (first | refine c_seq ?_ | refine c_regionN rfl ?_ | refine c_ret ?_ | (refine kCond ?_; (first | refine c_cond_t rfl ?_ | refine c_cond_f rfl ?_ | ((first | refine c_cond_d rfl (fun h => ?_) (fun h => ?_) | refine c_cond_n rfl (fun h => ?_) (fun h => ?_)) <;> (try (first | contradiction | (exfalso; omega)))) | refine c_cond_nb rfl (fun h => ?_) (fun h => ?_) | refine c_cond rfl (fun h => ?_) (fun h => ?_))) | refine c_block ?_ | refine c_skip ?_ | refine c_exit ?_ | refine c_regionQN rfl rfl (by decide +kernel) ?_)) | apply s_stepQ | (refine kQG ?_; (first | refine s_gyesQ rfl rfl rfl ?_ | refine s_gnoQ rfl rfl rfl rfl rfl ?_ | ((first | refine s_splitQ_d rfl rfl (fun h => ?_) (fun h => ?_) | refine s_splitQ_n rfl rfl (fun h => ?_) (fun h => ?_)) <;> (try (first | contradiction | (exfalso; omega)))) | refine s_splitQ_nb rfl rfl (fun h => ?_) (fun h => ?_) | refine s_splitQ rfl rfl (fun h => ?_) (fun h => ?_))) | refine lQ_then ?_ | refine lQ_ends ?_ | (refine kE ?_; (first | refine e_then_r ?_ | refine e_block_r ?_ | refine e_then_n ?_ | refine e_then_x ?_ | refine e_block_n ?_ | refine e_block_x ?_ | refine e_block_y rfl ?_)) | refine l_ends ?_)
      all_goals (refine kE ?_; refine s_leaveSF rfl rfl rfl fwA (fun w hw => ?_))
      all_goals refine ⟨ret_rectv ?_, hw.below⟩
      all_goals (unfold DRect.inter; rw [if_neg (fun h => hq h.2)]; rfl)
  · (first | apply SYields.mk | apply SYieldsF.mk | skip); refine s_enter Try.func145 rfl Try.ntmps145 rfl ?_
    repeat' (first | exact rfl | (apply kO; (first | exact ov_pure rfl | (apply kOBin; (first | exact aBin)) | (apply kOCall; (first | (apply kCallF; (first | exact (ov_call rfl (fun w hw => c_srectOk _ w)))) | (apply kCallB; (first | exact aBlt | exact aLenR)))) | (apply kOLoad; (first | exact aLdF | exact aLdR)) | exact ov_fieldAddr rfl | (apply kOIdx; (first | exact aIdx)) | exact aRest | exact aNew | exact (ov_field1 (ft := 37) rfl rfl rfl rfl))) | (refine kN ?_; (first | (refine kStore ?_; (first | refine s_store1 _ rfl rfl gpA rfl (by rfl) ?_ | refine s_storeS _ rfl rfl gpA rfl rfl (by rfl) ?_ | refine s_storeS _ rfl rfl gpA rfl (ones_img oiA) (by rfl) ?_)) | refine s_boxS rfl rfl (fun b hb => ?_) | refine s_allocS rfl (fun b hb => ?_) | refine s_box1 rfl rfl rfl (fun b hb => ?_) | refine s_alloc1 rfl rfl (fun b hb => ?_) | refine s_buildSlice0 rfl (fun b hb => ?_) | refine s_buildSlice rfl rfl rfl rfl rfl (fun b hb => ?_) | apply s_step)) | (refine kG ?_; (first | refine s_gyes rfl rfl rfl ?_ | refine s_gno rfl rfl rfl rfl rfl ?_ | ((first | refine s_split_d rfl rfl (fun h => ?_) (fun h => ?_) | refine s_split_n rfl rfl (fun h => ?_) (fun h => ?_)) <;> (try (first | contradiction | (exfalso; omega)))) | refine s_split_nb rfl rfl (fun h => ?_) (fun h => ?_) | refine s_split rfl rfl (fun h => ?_) (fun h => ?_))) | refine l_then ?_ | (refine kC ?_; (first | refine c_seq ?_ | refine c_regionN rfl ?_ | refine c_ret ?_ | (refine kCond ?_; (first | refine c_cond_t rfl ?_ | refine c_cond_f rfl ?_ | ((first | refine c_cond_d rfl (fun h => ?_) (fun h => ?_) | refine c_cond_n rfl (fun h => ?_) (fun h => ?_)) <;> (try (first | contradiction | (exfalso; omega)))) | refine c_cond_nb rfl (fun h => ?_) (fun h => ?_) | refine c_cond rfl (fun h => ?_) (fun h => ?_))) | refine c_block ?_ | refine c_skip ?_ | refine c_exit ?_ | refine c_regionQN rfl rfl (by decide +kernel) ?_)) | apply s_stepQ | (refine kQG ?_; (first | refine s_gyesQ rfl rfl rfl ?_ | refine s_gnoQ rfl rfl rfl rfl rfl ?_ | ((first | refine s_splitQ_d rfl rfl (fun h => ?_) (fun h => ?_) | refine s_splitQ_n rfl rfl (fun h => ?_) (fun h => ?_)) <;> (try (first | contradiction | (exfalso; omega)))) | refine s_splitQ_nb rfl rfl (fun h => ?_) (fun h => ?_) | refine s_splitQ rfl rfl (fun h => ?_) (fun h => ?_))) | refine lQ_then ?_ | refine lQ_ends ?_ | (refine kE ?_; (first | refine e_then_r ?_ | refine e_block_r ?_ | refine e_then_n ?_ | refine e_then_x ?_ | refine e_block_n ?_ | refine e_block_x ?_ | refine e_block_y rfl ?_)) | refine l_ends ?_)
    all_goals (refine kE ?_; refine s_leaveSF rfl rfl rfl fwA (fun w hw => ?_))
    all_goals refine ⟨ret_rectv ?_, hw.below⟩
    all_goals (unfold DRect.inter; rw [if_neg (fun h => hp h.1)]; rfl)
theorem DRect.eq {a b : DRect} (h1 : a.X = b.X) (h2 : a.Y = b.Y) (h3 : a.W = b.W) (h4 : a.H = b.H) : a = b := by cases a; cases b; simp_all
theorem c_eqRect (a c : DRect) (w : World) : SYields Try.prog 223 #[vRect a, vRect c] (.bool (decide (a = c))) w := by
  (first | apply SYields.mk | apply SYieldsF.mk | skip); refine s_enter Try.func223 rfl Try.ntmps223 rfl ?_
  repeat' (first | exact rfl | (apply kO; (first | exact ov_pure rfl | (apply kOBin; (first | exact aBin)) | (apply kOCall; (first | (apply kCallB; (first | exact aBlt | exact aLenR)))) | (apply kOLoad; (first | exact aLdF | exact aLdR)) | exact ov_fieldAddr rfl | (apply kOIdx; (first | exact aIdx)) | exact aRest | exact aNew | exact (ov_field1 (ft := 37) rfl rfl rfl rfl))) | (refine kN ?_; (first | (refine kStore ?_; (first | refine s_store1 _ rfl rfl gpA rfl (by rfl) ?_ | refine s_storeS _ rfl rfl gpA rfl rfl (by rfl) ?_ | refine s_storeS _ rfl rfl gpA rfl (ones_img oiA) (by rfl) ?_)) | refine s_boxS rfl rfl (fun b hb => ?_) | refine s_allocS rfl (fun b hb => ?_) | refine s_box1 rfl rfl rfl (fun b hb => ?_) | refine s_alloc1 rfl rfl (fun b hb => ?_) | refine s_buildSlice0 rfl (fun b hb => ?_) | refine s_buildSlice rfl rfl rfl rfl rfl (fun b hb => ?_) | apply s_step)) | (refine kG ?_; (first | refine s_gyes rfl rfl rfl ?_ | refine s_gno rfl rfl rfl rfl rfl ?_ | ((first | refine s_split_d rfl rfl (fun h => ?_) (fun h => ?_) | refine s_split_n rfl rfl (fun h => ?_) (fun h => ?_)) <;> (try (first | contradiction | (exfalso; omega)))) | refine s_split_nb rfl rfl (fun h => ?_) (fun h => ?_) | refine s_split rfl rfl (fun h => ?_) (fun h => ?_))) | refine l_then ?_ | (refine kC ?_; (first | refine c_seq ?_ | refine c_regionN rfl ?_ | refine c_ret ?_ | (refine kCond ?_; (first | refine c_cond_t rfl ?_ | refine c_cond_f rfl ?_ | ((first | refine c_cond_d rfl (fun h => ?_) (fun h => ?_) | refine c_cond_n rfl (fun h => ?_) (fun h => ?_)) <;> (try (first | contradiction | (exfalso; omega)))) | refine c_cond_nb rfl (fun h => ?_) (fun h => ?_) | refine c_cond rfl (fun h => ?_) (fun h => ?_))) | refine c_block ?_ | refine c_skip ?_ | refine c_exit ?_ | refine c_regionQN rfl rfl (by decide +kernel) ?_)) | apply s_stepQ | (refine kQG ?_; (first | refine s_gyesQ rfl rfl rfl ?_ | refine s_gnoQ rfl rfl rfl rfl rfl ?_ | ((first | refine s_splitQ_d rfl rfl (fun h => ?_) (fun h => ?_) | refine s_splitQ_n rfl rfl (fun h => ?_) (fun h => ?_)) <;> (try (first | contradiction | (exfalso; omega)))) | refine s_splitQ_nb rfl rfl (fun h => ?_) (fun h => ?_) | refine s_splitQ rfl rfl (fun h => ?_) (fun h => ?_))) | refine lQ_then ?_ | refine lQ_ends ?_ | (refine kE ?_; (first | refine e_then_r ?_ | refine e_block_r ?_ | refine e_then_n ?_ | refine e_then_x ?_ | refine e_block_n ?_ | refine e_block_x ?_ | refine e_block_y rfl ?_)) | refine l_ends ?_)
  all_goals refine s_leave1 rfl rfl (fun w hw => ⟨?_, hw.below⟩)
  all_goals first | exact ret_false (fun e => by subst e; contradiction) | exact ret_true (DRect.eq (by omega) (by omega) (by omega) (by omega))
end Go.Proofs.Ytakijgpoaeggnaa
/-
  Contracts: the laws' own helpers on images, surfaces, scenes.
-/
set_option linter.unusedVariables false
namespace Go.Proofs.Ytakijgpoaeggnaa
open Go Sx
attribute [local irreducible] Exit.then Exit.inBlock bodyPost
theorem c_szImage (i : DImg) (d : Value) (left : Int) (w : World) (hd : RInts w d i.data) (hl : 0 ≤ left ∧ left ≤ 1048576) : SYields Try.prog 25 #[vImg i d, .int .i64 left] (.int .i64 (szI i.data.length left)) w := by
  have hk := hd.len
  (first | apply SYields.mk | apply SYieldsF.mk | skip); refine s_enter Try.func25 rfl Try.ntmps25 rfl ?_
  repeat' (first | exact rfl | (apply kO; (first | exact ov_pure rfl | (apply kOBin; (first | exact aBin)) | (apply kOCall; (first | (apply kCallF; (first | exact (ov_call rfl (fun w hw => c_szIntS _ _ _ w (riA hw) (by omega))))) | (apply kCallB; (first | exact aBlt | exact aLenR)))) | (apply kOLoad; (first | exact aLdF | exact aLdR)) | exact ov_fieldAddr rfl | (apply kOIdx; (first | exact aIdx)) | exact aRest | exact aNew | exact (ov_field1 (ft := 37) rfl rfl rfl rfl))) | (refine kN ?_; (first | (refine kStore ?_; (first | refine s_store1 _ rfl rfl gpA rfl (by rfl) ?_ | refine s_storeS _ rfl rfl gpA rfl rfl (by rfl) ?_ | refine s_storeS _ rfl rfl gpA rfl (ones_img oiA) (by rfl) ?_)) | refine s_boxS rfl rfl (fun b hb => ?_) | refine s_allocS rfl (fun b hb => ?_) | refine s_box1 rfl rfl rfl (fun b hb => ?_) | refine s_alloc1 rfl rfl (fun b hb => ?_) | refine s_buildSlice0 rfl (fun b hb => ?_) | refine s_buildSlice rfl rfl rfl rfl rfl (fun b hb => ?_) | apply s_step)) | (refine kG ?_; (first | refine s_gyes rfl rfl rfl ?_ | refine s_gno rfl rfl rfl rfl rfl ?_ | ((first | refine s_split_d rfl rfl (fun h => ?_) (fun h => ?_) | refine s_split_n rfl rfl (fun h => ?_) (fun h => ?_)) <;> (try (first | contradiction | (exfalso; omega)))) | refine s_split_nb rfl rfl (fun h => ?_) (fun h => ?_) | refine s_split rfl rfl (fun h => ?_) (fun h => ?_))) | refine l_then ?_ | (refine kC ?_; (first | refine c_seq ?_ | refine c_regionN rfl ?_ | refine c_ret ?_ | (refine kCond ?_; (first | refine c_cond_t rfl ?_ | refine c_cond_f rfl ?_ | ((first | refine c_cond_d rfl (fun h => ?_) (fun h => ?_) | refine c_cond_n rfl (fun h => ?_) (fun h => ?_)) <;> (try (first | contradiction | (exfalso; omega)))) | refine c_cond_nb rfl (fun h => ?_) (fun h => ?_) | refine c_cond rfl (fun h => ?_) (fun h => ?_))) | refine c_block ?_ | refine c_skip ?_ | refine c_exit ?_ | refine c_regionQN rfl rfl (by decide +kernel) ?_)) | apply s_stepQ | (refine kQG ?_; (first | refine s_gyesQ rfl rfl rfl ?_ | refine s_gnoQ rfl rfl rfl rfl rfl ?_ | ((first | refine s_splitQ_d rfl rfl (fun h => ?_) (fun h => ?_) | refine s_splitQ_n rfl rfl (fun h => ?_) (fun h => ?_)) <;> (try (first | contradiction | (exfalso; omega)))) | refine s_splitQ_nb rfl rfl (fun h => ?_) (fun h => ?_) | refine s_splitQ rfl rfl (fun h => ?_) (fun h => ?_))) | refine lQ_then ?_ | refine lQ_ends ?_ | (refine kE ?_; (first | refine e_then_r ?_ | refine e_block_r ?_ | refine e_then_n ?_ | refine e_then_x ?_ | refine e_block_n ?_ | refine e_block_x ?_ | refine e_block_y rfl ?_)) | refine l_ends ?_)
  all_goals refine s_leave1 rfl rfl (fun w hw => ⟨?_, hw.below⟩)
  all_goals (refine ret_int ?_; unfold szI at *; (repeat' split at *) <;> omega)
theorem c_toImage (i : DImg) (d : Value) (w : World) (hd : RInts w d i.data) (hl : i.data.length ≤ 1048576) : SYieldsF Try.prog 28 #[vImg i d] (fun u H => OImg u i H) w := by
  have hd' := hd.form
  obtain ⟨_, _, rfl⟩ := hd'
  (first | apply SYields.mk | apply SYieldsF.mk | skip); refine s_enter Try.func28 rfl Try.ntmps28 rfl ?_
  repeat' (first | exact rfl | (apply kO; (first | exact ov_pure rfl | (apply kOBin; (first | exact aBin)) | (apply kOCall; (first | (apply kCallB; (first | exact aBlt | exact aLenR)))) | (apply kOLoad; (first | exact aLdF | exact aLdR)) | exact ov_fieldAddr rfl | (apply kOIdx; (first | exact aIdx)) | exact aRest | exact aNew | exact (ov_field1 (ft := 37) rfl rfl rfl rfl))) | (refine kN ?_; (first | (refine kCall ?_; (first | (refine kWFunc ?_; (refine s_callF (fun u H => OInts 3 u i.data H) rfl (fun w hw => c_toIntS _ _ w (riA hw) hl) rfl (fun u H hu => ?_); obtain ⟨_, _, rfl⟩ := hu.form)) | apply s_step)) | (refine kStore ?_; (first | refine s_store1 _ rfl rfl gpA rfl (by rfl) ?_ | refine s_storeS _ rfl rfl gpA rfl rfl (by rfl) ?_ | refine s_storeS _ rfl rfl gpA rfl (ones_img oiA) (by rfl) ?_)) | refine s_boxS rfl rfl (fun b hb => ?_) | refine s_allocS rfl (fun b hb => ?_) | refine s_box1 rfl rfl rfl (fun b hb => ?_) | refine s_alloc1 rfl rfl (fun b hb => ?_) | refine s_buildSlice0 rfl (fun b hb => ?_) | refine s_buildSlice rfl rfl rfl rfl rfl (fun b hb => ?_) | apply s_step)) | (refine kG ?_; (first | refine s_gyes rfl rfl rfl ?_ | refine s_gno rfl rfl rfl rfl rfl ?_ | ((first | refine s_split_d rfl rfl (fun h => ?_) (fun h => ?_) | refine s_split_n rfl rfl (fun h => ?_) (fun h => ?_)) <;> (try (first | contradiction | (exfalso; omega)))) | refine s_split_nb rfl rfl (fun h => ?_) (fun h => ?_) | refine s_split rfl rfl (fun h => ?_) (fun h => ?_))) | refine l_then ?_ | (refine kC ?_; (first | refine c_seq ?_ | refine c_regionN rfl ?_ | refine c_ret ?_ | (refine kCond ?_; (first | refine c_cond_t rfl ?_ | refine c_cond_f rfl ?_ | ((first | refine c_cond_d rfl (fun h => ?_) (fun h => ?_) | refine c_cond_n rfl (fun h => ?_) (fun h => ?_)) <;> (try (first | contradiction | (exfalso; omega)))) | refine c_cond_nb rfl (fun h => ?_) (fun h => ?_) | refine c_cond rfl (fun h => ?_) (fun h => ?_))) | refine c_block ?_ | refine c_skip ?_ | refine c_exit ?_ | refine c_regionQN rfl rfl (by decide +kernel) ?_)) | apply s_stepQ | (refine kQG ?_; (first | refine s_gyesQ rfl rfl rfl ?_ | refine s_gnoQ rfl rfl rfl rfl rfl ?_ | ((first | refine s_splitQ_d rfl rfl (fun h => ?_) (fun h => ?_) | refine s_splitQ_n rfl rfl (fun h => ?_) (fun h => ?_)) <;> (try (first | contradiction | (exfalso; omega)))) | refine s_splitQ_nb rfl rfl (fun h => ?_) (fun h => ?_) | refine s_splitQ rfl rfl (fun h => ?_) (fun h => ?_))) | refine lQ_then ?_ | refine lQ_ends ?_ | (refine kE ?_; (first | refine e_then_r ?_ | refine e_block_r ?_ | refine e_then_n ?_ | refine e_then_x ?_ | refine e_block_n ?_ | refine e_block_x ?_ | refine e_block_y rfl ?_)) | refine l_ends ?_)
  all_goals (refine kE ?_; refine s_leaveSF rfl rfl rfl fwA (fun w hw => ?_))
  exact ⟨_, _, rfl, ⟨_, rfl, by assumption⟩, hw.toFresh (i := 0) rfl⟩
theorem c_eqImage (a b : DImg) (d e : Value) (w : World) (hd : RInts w d a.data) (he : RInts w e b.data) : SYields Try.prog 30 #[vImg a d, vImg b e] (.bool (decide (a = b))) w := by
  (first | apply SYields.mk | apply SYieldsF.mk | skip); refine s_enter Try.func30 rfl Try.ntmps30 rfl ?_
  repeat' (first | exact rfl | (apply kO; (first | exact ov_pure rfl | (apply kOBin; (first | exact aBin)) | (apply kOCall; (first | (apply kCallF; (first | exact (ov_call rfl (fun w hw => c_eqIntS _ _ _ _ w (riA hw) (riA hw))))) | (apply kCallB; (first | exact aBlt | exact aLenR)))) | (apply kOLoad; (first | exact aLdF | exact aLdR)) | exact ov_fieldAddr rfl | (apply kOIdx; (first | exact aIdx)) | exact aRest | exact aNew | exact (ov_field1 (ft := 37) rfl rfl rfl rfl))) | (refine kN ?_; (first | (refine kStore ?_; (first | refine s_store1 _ rfl rfl gpA rfl (by rfl) ?_ | refine s_storeS _ rfl rfl gpA rfl rfl (by rfl) ?_ | refine s_storeS _ rfl rfl gpA rfl (ones_img oiA) (by rfl) ?_)) | refine s_boxS rfl rfl (fun b hb => ?_) | refine s_allocS rfl (fun b hb => ?_) | refine s_box1 rfl rfl rfl (fun b hb => ?_) | refine s_alloc1 rfl rfl (fun b hb => ?_) | refine s_buildSlice0 rfl (fun b hb => ?_) | refine s_buildSlice rfl rfl rfl rfl rfl (fun b hb => ?_) | apply s_step)) | (refine kG ?_; (first | refine s_gyes rfl rfl rfl ?_ | refine s_gno rfl rfl rfl rfl rfl ?_ | ((first | refine s_split_d rfl rfl (fun h => ?_) (fun h => ?_) | refine s_split_n rfl rfl (fun h => ?_) (fun h => ?_)) <;> (try (first | contradiction | (exfalso; omega)))) | refine s_split_nb rfl rfl (fun h => ?_) (fun h => ?_) | refine s_split rfl rfl (fun h => ?_) (fun h => ?_))) | refine l_then ?_ | (refine kC ?_; (first | refine c_seq ?_ | refine c_regionN rfl ?_ | refine c_ret ?_ | (refine kCond ?_; (first | refine c_cond_t rfl ?_ | refine c_cond_f rfl ?_ | ((first | refine c_cond_d rfl (fun h => ?_) (fun h => ?_) | refine c_cond_n rfl (fun h => ?_) (fun h => ?_)) <;> (try (first | contradiction | (exfalso; omega)))) | refine c_cond_nb rfl (fun h => ?_) (fun h => ?_) | refine c_cond rfl (fun h => ?_) (fun h => ?_))) | refine c_block ?_ | refine c_skip ?_ | refine c_exit ?_ | refine c_regionQN rfl rfl (by decide +kernel) ?_)) | apply s_stepQ | (refine kQG ?_; (first | refine s_gyesQ rfl rfl rfl ?_ | refine s_gnoQ rfl rfl rfl rfl rfl ?_ | ((first | refine s_splitQ_d rfl rfl (fun h => ?_) (fun h => ?_) | refine s_splitQ_n rfl rfl (fun h => ?_) (fun h => ?_)) <;> (try (first | contradiction | (exfalso; omega)))) | refine s_splitQ_nb rfl rfl (fun h => ?_) (fun h => ?_) | refine s_splitQ rfl rfl (fun h => ?_) (fun h => ?_))) | refine lQ_then ?_ | refine lQ_ends ?_ | (refine kE ?_; (first | refine e_then_r ?_ | refine e_block_r ?_ | refine e_then_n ?_ | refine e_then_x ?_ | refine e_block_n ?_ | refine e_block_x ?_ | refine e_block_y rfl ?_)) | refine l_ends ?_)
  all_goals refine s_leave1 rfl rfl (fun w hw => ⟨?_, hw.below⟩)
  all_goals first | exact ret_false (fun e => by subst e; contradiction) | exact ret_true (DImg.eq (by omega) (by omega) (by assumption))
theorem c_markIntS (v : Value) (l : List Int) (H : SPiece) (k : Int) (w : World) (hv : OInts 3 v l H) (hH : Holds w H) (hn : H.keys.Nodup) (hk : 0 ≤ k ∧ k + l.length ≤ 4611686018427387904) :
    SYieldsG Try.prog 99 #[v, .int .i64 k] H (fun u H' F => u = .int .i64 (k + l.length) ∧ OInts 3 v (iota k l.length) H' ∧ F = []) w := by
  have hlen := (OVec.le hv)
  unfold maxLen at hlen
  have hil := iota_length k l.length
  have hml := markTo_length l k
  unfold OInts at hv
  generalize hx : ivals l = xs at hv
  generalize hnn : l.length = nn at hv
  cases hv with
  | nil =>
    have hl0 : l = [] := List.eq_nil_of_length_eq_zero hnn
    subst hl0
    refine SYieldsG.mk (s_enterM Try.func99 rfl Try.ntmps99 rfl hH hn ?_)
    repeat' (first | exact rfl | (apply kO; (first | exact ov_pure rfl | (apply kOBin; (first | exact aBin)) | (apply kOCall; (first | (apply kCallB; (first | exact aBlt | exact aLenR)))) | (apply kOLoad; (first | exact aLdF | exact aLdR)) | exact ov_fieldAddr rfl | (apply kOIdx; (first | exact aIdx)) | exact aRest | exact aNew | exact (ov_field1 (ft := 37) rfl rfl rfl rfl))) | (refine kN ?_; (first | (refine kStore ?_; (first | refine s_store1 _ rfl rfl gpA rfl (by rfl) ?_ | refine s_storeS _ rfl rfl gpA rfl rfl (by rfl) ?_ | refine s_storeS _ rfl rfl gpA rfl (ones_img oiA) (by rfl) ?_)) | refine s_boxS rfl rfl (fun b hb => ?_) | refine s_allocS rfl (fun b hb => ?_) | refine s_box1 rfl rfl rfl (fun b hb => ?_) | refine s_alloc1 rfl rfl (fun b hb => ?_) | refine s_buildSlice0 rfl (fun b hb => ?_) | refine s_buildSlice rfl rfl rfl rfl rfl (fun b hb => ?_) | apply s_step)) | (refine kG ?_; (first | refine s_gyes rfl rfl rfl ?_ | refine s_gno rfl rfl rfl rfl rfl ?_ | ((first | refine s_split_d rfl rfl (fun h => ?_) (fun h => ?_) | refine s_split_n rfl rfl (fun h => ?_) (fun h => ?_)) <;> (try (first | contradiction | (exfalso; omega)))) | refine s_split_nb rfl rfl (fun h => ?_) (fun h => ?_) | refine s_split rfl rfl (fun h => ?_) (fun h => ?_))) | refine l_then ?_ | (refine kC ?_; (first | (refine c_loopV (ι := Unit) (fun _ => True) (fun _ => [(1, .int .i64 k), (5, .int .i64 0)]) (fun _ => [[]]) (fun _ => 0) () trivial rfl (fun _ => rfl) (by repeat' first | exact trivial | refine ⟨rfl, ?_⟩) (fun w hw => by simpa using hw) (fun j hj => ?_)) | refine c_seq ?_ | refine c_regionN rfl ?_ | refine c_ret ?_ | (refine kCond ?_; (first | refine c_cond_t rfl ?_ | refine c_cond_f rfl ?_ | ((first | refine c_cond_d rfl (fun h => ?_) (fun h => ?_) | refine c_cond_n rfl (fun h => ?_) (fun h => ?_)) <;> (try (first | contradiction | (exfalso; omega)))) | refine c_cond_nb rfl (fun h => ?_) (fun h => ?_) | refine c_cond rfl (fun h => ?_) (fun h => ?_))) | refine c_block ?_ | refine c_skip ?_ | refine c_exit ?_ | refine c_regionQN rfl rfl (by decide +kernel) ?_)) | apply s_stepQ | (refine kQG ?_; (first | refine s_gyesQ rfl rfl rfl ?_ | refine s_gnoQ rfl rfl rfl rfl rfl ?_ | ((first | refine s_splitQ_d rfl rfl (fun h => ?_) (fun h => ?_) | refine s_splitQ_n rfl rfl (fun h => ?_) (fun h => ?_)) <;> (try (first | contradiction | (exfalso; omega)))) | refine s_splitQ_nb rfl rfl (fun h => ?_) (fun h => ?_) | refine s_splitQ rfl rfl (fun h => ?_) (fun h => ?_))) | refine lQ_then ?_ | refine lQ_ends ?_ | (refine kE ?_; (first | refine e_then_r ?_ | refine e_block_r ?_ | refine e_then_n ?_ | refine e_then_x ?_ | refine e_block_n ?_ | refine e_block_x ?_ | refine e_block_y rfl ?_)) | refine l_ends ?_)
    · exact s_leave1 rfl rfl (fun w hw => ⟨_, _, _, rfl, ⟨by simp, OVec.nil, rfl⟩, SSt.lone hw⟩)
  | blk b n cap xs r h1 h2 h3 h4 =>
    subst hx
    subst hnn
    refine SYieldsG.mk (s_enterM Try.func99 rfl Try.ntmps99 rfl hH hn ?_)
    repeat' (first | exact rfl | (apply kO; (first | exact ov_pure rfl | (apply kOBin; (first | exact aBin)) | (apply kOCall; (first | (apply kCallB; (first | exact aBlt | exact aLenR)))) | (apply kOLoad; (first | exact aLdF | exact aLdR)) | exact ov_fieldAddr rfl | (apply kOIdx; (first | exact aIdx)) | exact aRest | exact aNew | exact (ov_field1 (ft := 37) rfl rfl rfl rfl))) | (refine kN ?_; (first | (refine kStore ?_; (first | (refine s_setR 0 rfl rfl rfl rfl (by rw [List.length_append, ivals_length, hml j hj]; omega) ?_) | refine s_store1 _ rfl rfl gpA rfl (by rfl) ?_ | refine s_storeS _ rfl rfl gpA rfl rfl (by rfl) ?_ | refine s_storeS _ rfl rfl gpA rfl (ones_img oiA) (by rfl) ?_)) | refine s_boxS rfl rfl (fun b hb => ?_) | refine s_allocS rfl (fun b hb => ?_) | refine s_box1 rfl rfl rfl (fun b hb => ?_) | refine s_alloc1 rfl rfl (fun b hb => ?_) | refine s_buildSlice0 rfl (fun b hb => ?_) | refine s_buildSlice rfl rfl rfl rfl rfl (fun b hb => ?_) | apply s_step)) | (refine kG ?_; (first | refine s_gyes rfl rfl rfl ?_ | refine s_gno rfl rfl rfl rfl rfl ?_ | ((first | refine s_split_d rfl rfl (fun h => ?_) (fun h => ?_) | refine s_split_n rfl rfl (fun h => ?_) (fun h => ?_)) <;> (try (first | contradiction | (exfalso; omega)))) | refine s_split_nb rfl rfl (fun h => ?_) (fun h => ?_) | refine s_split rfl rfl (fun h => ?_) (fun h => ?_))) | refine l_then ?_ | (refine kC ?_; (first | (refine c_loopV (ι := Nat) (fun j => j ≤ l.length) (fun j => [(1, .int .i64 (k + j)), (5, .int .i64 (j : Int))]) (fun j => [[(b, srow (ivals (markTo l k j) ++ r) 3)]]) (fun j => l.length - j) 0 (by omega) rfl (fun _ => rfl) ⟨slook_to rfl (vint_to (by simp)), rfl, trivial⟩ (fun w hw => by rw [markTo_zero]; simpa using hw) (fun j hj => ?_)) | refine c_seq ?_ | refine c_regionN rfl ?_ | refine c_ret ?_ | (refine kCond ?_; (first | refine c_cond_t rfl ?_ | refine c_cond_f rfl ?_ | ((first | refine c_cond_d rfl (fun h => ?_) (fun h => ?_) | refine c_cond_n rfl (fun h => ?_) (fun h => ?_)) <;> (try (first | contradiction | (exfalso; omega)))) | refine c_cond_nb rfl (fun h => ?_) (fun h => ?_) | refine c_cond rfl (fun h => ?_) (fun h => ?_))) | refine c_block ?_ | refine c_skip ?_ | refine c_exit ?_ | refine c_regionQN rfl rfl (by decide +kernel) ?_)) | apply s_stepQ | (refine kQG ?_; (first | refine s_gyesQ rfl rfl rfl ?_ | refine s_gnoQ rfl rfl rfl rfl rfl ?_ | ((first | refine s_splitQ_d rfl rfl (fun h => ?_) (fun h => ?_) | refine s_splitQ_n rfl rfl (fun h => ?_) (fun h => ?_)) <;> (try (first | contradiction | (exfalso; omega)))) | refine s_splitQ_nb rfl rfl (fun h => ?_) (fun h => ?_) | refine s_splitQ rfl rfl (fun h => ?_) (fun h => ?_))) | refine lQ_then ?_ | refine lQ_ends ?_ | (refine kE ?_; (first | refine e_then_r ?_ | refine e_block_r ?_ | refine e_then_n ?_ | refine e_then_x ?_ | refine e_block_n ?_ | refine e_block_x ?_ | refine e_block_y rfl ?_)) | refine l_ends ?_)
    · refine e_round (j + 1) (by omega) ⟨slook_to rfl (vint_to (by omega)), rfl, (by repeat' first | exact trivial | refine ⟨rfl, ?_⟩)⟩ (fun w hw => ?_) (by omega)
      rw [show 0 + (j : Int).toNat * 1 = j by omega, set_ivals _ _ (by rw [hml j hj]; omega), markTo_set _ _ _ (by omega)] at hw
      exact hw
    · obtain rfl : j = l.length := by omega
      rw [markTo_all]
      refine s_leave1 rfl rfl (fun w hw => ⟨_, _, _, rfl, ⟨rfl, ?_, rfl⟩, SSt.lone hw⟩)
      have := OVec.blk (k := 1) (T := 3) b l.length cap (ivals (iota k l.length)) r (by rw [ivals_length, hil]; omega) (by simp [ivals_length, hil] at h2 ⊢; omega) h3 h4
      rw [OInts, hil]; exact this
theorem c_heldIntS (v : Value) (l : List Int) (k : Int) (w : World) (hv : RInts w v l) (hk : 0 ≤ k ∧ k + l.length ≤ 4611686018427387904) : SYields Try.prog 100 #[v, .int .i64 k] (.int .i64 (heldI l k)) w := by
  have hl := hv.len
  (first | apply SYields.mk | apply SYieldsF.mk | skip); refine s_enter Try.func100 rfl Try.ntmps100 rfl ?_
  repeat' (first | exact rfl | (apply kO; (first | exact ov_pure rfl | (apply kOBin; (first | exact aBin)) | (apply kOCall; (first | (apply kCallB; (first | exact aBlt | exact aLenR)))) | (apply kOLoad; (first | exact aLdF | exact aLdR)) | exact ov_fieldAddr rfl | (apply kOIdx; (first | exact aIdx)) | exact aRest | exact aNew | exact (ov_field1 (ft := 37) rfl rfl rfl rfl))) | (refine kN ?_; (first | (refine kStore ?_; (first | refine s_store1 _ rfl rfl gpA rfl (by rfl) ?_ | refine s_storeS _ rfl rfl gpA rfl rfl (by rfl) ?_ | refine s_storeS _ rfl rfl gpA rfl (ones_img oiA) (by rfl) ?_)) | refine s_boxS rfl rfl (fun b hb => ?_) | refine s_allocS rfl (fun b hb => ?_) | refine s_box1 rfl rfl rfl (fun b hb => ?_) | refine s_alloc1 rfl rfl (fun b hb => ?_) | refine s_buildSlice0 rfl (fun b hb => ?_) | refine s_buildSlice rfl rfl rfl rfl rfl (fun b hb => ?_) | apply s_step)) | (refine kG ?_; (first | refine s_gyes rfl rfl rfl ?_ | refine s_gno rfl rfl rfl rfl rfl ?_ | ((first | refine s_split_d rfl rfl (fun h => ?_) (fun h => ?_) | refine s_split_n rfl rfl (fun h => ?_) (fun h => ?_)) <;> (try (first | contradiction | (exfalso; omega)))) | refine s_split_nb rfl rfl (fun h => ?_) (fun h => ?_) | refine s_split rfl rfl (fun h => ?_) (fun h => ?_))) | refine l_then ?_ | (refine kC ?_; (first | (refine c_loopV (ι := Nat) (fun j => j ≤ l.length ∧ heldTo l k j) (fun j => [(1, .int .i64 (k + j)), (5, .int .i64 (j : Int))]) (fun _ => []) (fun j => l.length - j) 0 ⟨by omega, fun i hi => by omega⟩ rfl (fun _ => rfl) ⟨slook_to rfl (vint_to (by simp)), rfl, trivial⟩ (fun w hw => hw) (fun j hj => ?_)) | refine c_seq ?_ | refine c_regionN rfl ?_ | refine c_ret ?_ | (refine kCond ?_; (first | refine c_cond_t rfl ?_ | refine c_cond_f rfl ?_ | ((first | refine c_cond_d rfl (fun h => ?_) (fun h => ?_) | refine c_cond_n rfl (fun h => ?_) (fun h => ?_)) <;> (try (first | contradiction | (exfalso; omega)))) | refine c_cond_nb rfl (fun h => ?_) (fun h => ?_) | refine c_cond rfl (fun h => ?_) (fun h => ?_))) | refine c_block ?_ | refine c_skip ?_ | refine c_exit ?_ | refine c_regionQN rfl rfl (by decide +kernel) ?_)) | apply s_stepQ | (refine kQG ?_; (first | refine s_gyesQ rfl rfl rfl ?_ | refine s_gnoQ rfl rfl rfl rfl rfl ?_ | ((first | refine s_splitQ_d rfl rfl (fun h => ?_) (fun h => ?_) | refine s_splitQ_n rfl rfl (fun h => ?_) (fun h => ?_)) <;> (try (first | contradiction | (exfalso; omega)))) | refine s_splitQ_nb rfl rfl (fun h => ?_) (fun h => ?_) | refine s_splitQ rfl rfl (fun h => ?_) (fun h => ?_))) | refine lQ_then ?_ | refine lQ_ends ?_ | (refine kE ?_; (first | refine e_then_r ?_ | refine e_block_r ?_ | refine e_then_n ?_ | refine e_then_x ?_ | refine e_block_n ?_ | refine e_block_x ?_ | refine e_block_y rfl ?_)) | refine l_ends ?_)
  all_goals try simp only [Int.toNat_natCast] at *
  · exact s_leave1 rfl rfl (fun w hw => ⟨ret_int (by unfold heldI; rw [if_neg (heldTo_ne (j := j) (by omega) (by omega))]), hw.below⟩)
  · exact e_round (j + 1) ⟨by omega, fun i hi => by
      by_cases e : i = j
      · subst e; omega
      · exact hj.2 i (by omega)⟩ ⟨slook_to rfl (vint_to (by omega)), rfl, (by repeat' first | exact trivial | refine ⟨rfl, ?_⟩)⟩ (fun w hw => hw) (by omega)
  · obtain rfl : j = l.length := by omega
    exact s_leave1 rfl rfl (fun w hw => ⟨ret_int (by unfold heldI; rw [if_pos (heldTo_all hj.2 (by omega))]), hw.below⟩)
end Go.Proofs.Ytakijgpoaeggnaa
/-
  Is this the call of that function.
-/
set_option linter.unusedVariables false
namespace Go.Proofs.Ytakijgpoaeggnaa
open Go Sx
section
variable {n : Nat} {lo : SMut} {s : World} {ops : Array Oper} {Q : Exit → Act → World → Prop} {E : SEnv} {L : SHeap} {ty : TypeId} {pos : String} {after : Array Edge} {rest : List Oper}
theorem kWFn (f : FuncId) {P : Program} {aa : Array Operand} {ts : Array TypeId} {d : Option Tmp} {g : Option (Nat × Bool)} (h : WPL P n lo s ops Q (⟨d, .call { callee := .value (.func f), args := aa, argTypes := ts }, ty, pos, after, g⟩ :: rest) E L) : WPL P n lo s ops Q (⟨d, .call { callee := .value (.func f), args := aa, argTypes := ts }, ty, pos, after, g⟩ :: rest) E L := h
end
end Go.Proofs.Ytakijgpoaeggnaa
/-
  Rules for what the laws mark.
-/
set_option linter.unusedVariables false
namespace Go.Proofs.Ytakijgpoaeggnaa
open Go Sx
attribute [local irreducible] Exit.then Exit.inBlock bodyPost
section
variable {n : Nat} {lo : SMut} {s : World} {ops : Array Oper} {Q : Exit → Act → World → Prop} {E : SEnv} {L : SHeap} {dd : Nat} {ty : TypeId} {pos : String} {after : Array Edge} {rest : List Oper}
theorem s_markI (i : Nat) {v : Value} {l : List Int} {k : Int} {H : SPiece} {args : List Operand} {ts : Array TypeId} (ha : svals E args = some [v, .int .i64 k]) (hv : OInts 3 v l H) (hL : getL L i = some H) (hk : 0 ≤ k ∧ k + l.length ≤ 4611686018427387904) (hd : Nat.blt dd n = true)
    (c : ∀ H', OInts 3 v (iota k l.length) H' → WPL Try.prog n lo s ops Q rest ((dd, .int .i64 (k + l.length)) :: E) ([] :: setL L i H')) :
    WPL Try.prog n lo s ops Q (⟨some dd, .call { callee := .value (.func 99), args := args.toArray, argTypes := ts }, ty, pos, after, none⟩ :: rest) E L :=
  s_callG i (fun u H' F => u = .int .i64 (k + l.length) ∧ OInts 3 v (iota k l.length) H' ∧ F = []) ha hL (fun w hw hh hn => c_markIntS v l H k w hv hh hn hk) hd (fun v' H' F hu => by obtain ⟨rfl, hu, rfl⟩ := hu; exact c H' hu)
end
end Go.Proofs.Ytakijgpoaeggnaa
/-
  The plain functions, continued: pictures as functions of the place; painting. No program in sight.
-/
set_option linter.unusedVariables false
namespace Sx

/-! ### a picture as a function -/
/-- a valid image's pixel -/
def DImg.at (i : DImg) (x y : Int) : Int := i.data.getD (y * i.W + x).toNat 0
/-- an image that a function gives -/
def fimg (f : Int → Int → Int) (w h : Int) : DImg := ⟨w, h, mapTo f w (w * h).toNat⟩
/-! ### chapter 11: painting -/
/-- the rectangle of a valid surface, visible or not -/
def rawRect (s : DSurf) : DRect := ⟨s.X, s.Y, (surfSize s).1, (surfSize s).2⟩
/-- the pixel that a surface has at a point -/
def pixOf (s : DSurf) (x y : Int) : Int := (pictureOf s).at (x - s.X) (y - s.Y)
/-- a surface over what is below it -/
def layer (s : DSurf) (x y b : Int) : Int := if (surfRect s).has x y then over (pixOf s x y) b else b
def layers (l : List DSurf) (x y b : Int) : Int := l.foldl (fun q s => layer s x y q) b
def paintF (s : DScene) (x y : Int) : Int := layers s.ss x y s.Back
def painted (s : DScene) : DImg := fimg (paintF s) s.W s.H
def paint (s : DScene) : DImg := if s.ok then painted s else DImg.zero
def paintAt (s : DScene) (x y : Int) : Int := if s.ok ∧ (0 ≤ x ∧ x ≤ s.W - 1) ∧ (0 ≤ y ∧ y ≤ s.H - 1) then paintF s x y else -1
/-- the first n surfaces -/
def paintTo (s : DScene) (n : Nat) (x y : Int) : Int := layers (s.ss.take n) x y s.Back
/-! one surface over an image, within some points -/
/-- what paintOne has made of the pixel at (x, y) after k pixels of the picture -/
def hitTo (s : DSurf) (k : Nat) (x y : Int) : Prop := (rawRect s).has x y ∧ (y - s.Y) * (surfSize s).1 + (x - s.X) < k
instance (s : DSurf) (k : Nat) (x y : Int) : Decidable (hitTo s k x y) := by unfold hitTo; infer_instance
def inG (g : Grid) (x y : Int) : Bool := g y.toNat x.toNat
def oneTo (s : DSurf) (g : Grid) (old : Int → Int → Int) (k : Nat) (x y : Int) : Int := if hitTo s k x y ∧ inG g x y = true then over (pixOf s x y) (old x y) else old x y
/-- the place of the k-th pixel on the screen -/
def kx (s : DSurf) (k : Nat) : Int := s.X + (k : Int) % (surfSize s).1
def ky (s : DSurf) (k : Nat) : Int := s.Y + (k : Int) / (surfSize s).1
/-! opaque surfaces hide what is below -/
end Sx
/-
  The plain functions, continued: edits of scenes; damage. No program in sight.
-/
set_option linter.unusedVariables false
namespace Sx

/-! ### chapter 10: edits -/
structure DEdit where
  Kind : Int
  Id : Int
  A : Int
  B : Int
  buf : DImg
deriving DecidableEq
def DEdit.zero : DEdit := ⟨0, 0, 0, 0, DImg.zero⟩
instance : Inhabited DEdit := ⟨DEdit.zero⟩
def added (e : DEdit) : DSurf := ⟨e.Id, e.A, e.B, 0, 0, 255, 0, true, e.buf⟩
/-- surface number k, edited in place -/
def touched (x : DSurf) (e : DEdit) : DSurf :=
  if e.Kind = 2 then { x with X := e.A, Y := e.B }
  else if e.Kind = 5 then { x with buf := e.buf }
  else if e.Kind = 6 then { x with Alpha := e.A }
  else if e.Kind = 7 then { x with Orient := e.A }
  else if e.Kind = 8 then { x with W := e.A, H := e.B }
  else { x with Visible := decide (e.A = 1) }
def editK (l : List DSurf) (e : DEdit) (k : Nat) : List DSurf :=
  if e.Kind = 1 then l.eraseIdx k
  else if e.Kind = 3 then l.eraseIdx k ++ [l.getD k default]
  else if e.Kind = 4 then l.getD k default :: l.eraseIdx k
  else l.set k (touched (l.getD k default) e)
/-- is there such a surface, if one is needed, and such a kind -/
def editable (s : DScene) (e : DEdit) : Prop := e.Kind = 0 ∨ e.Kind = 10 ∨ ((1 ≤ e.Kind ∧ e.Kind ≤ 9) ∧ 0 ≤ surfaceIndex s.ss e.Id)
instance (s : DScene) (e : DEdit) : Decidable (editable s e) := by unfold editable; infer_instance
def edited (s : DScene) (e : DEdit) : DScene :=
  if e.Kind = 0 then { s with ss := s.ss ++ [added e] }
  else if e.Kind = 10 then { s with Back := e.A }
  else { s with ss := editK s.ss e (surfaceIndex s.ss e.Id).toNat }
def doEditOk (s : DScene) (e : DEdit) : Prop := s.ok ∧ editable s e ∧ (edited s e).ok
instance (s : DScene) (e : DEdit) : Decidable (doEditOk s e) := by unfold doEditOk; infer_instance
def doEdit (s : DScene) (e : DEdit) : DScene := if doEditOk s e then edited s e else s
def doEdits (s : DScene) (l : List DEdit) : DScene := l.foldl doEdit s
def editCount : DScene → List DEdit → Nat
  | _, [] => 0
  | s, e :: l => (if doEditOk s e then 1 else 0) + editCount (doEdit s e) l
/-! surfaces by their Ids -/
/-! ### chapter 13: damage -/
/-- at this point the scenes may differ -/
def damP (a b : DScene) (x y : Int) : Prop :=
  (∃ s, s ∈ a.ss ∧ s ∉ b.ss ∧ (surfRect s).has x y) ∨ (∃ s, s ∈ b.ss ∧ s ∉ a.ss ∧ (surfRect s).has x y) ∨
  (∃ i k : Nat, k < i ∧ i < b.ss.length ∧ 0 ≤ surfaceIndex a.ss (b.ss.getD i default).Id ∧ surfaceIndex a.ss (b.ss.getD i default).Id < surfaceIndex a.ss (b.ss.getD k default).Id ∧ (surfRect (b.ss.getD i default)).has x y ∧ (surfRect (b.ss.getD k default)).has x y)
def seenAt (l : List DSurf) (x y : Int) : List DSurf := l.filter (fun s => decide ((surfRect s).has x y))
end Sx
