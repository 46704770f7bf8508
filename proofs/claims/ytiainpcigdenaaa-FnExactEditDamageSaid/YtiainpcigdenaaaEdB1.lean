/-
  Texts that the law stands on, part 1: Mdl, M1, D1, D2, K1, K3, K6, KF, K16, KS, L7, M2, KR, KU, KT, E1, EB, M3, M5.
-/
import Derived.Test.YtiainpcigdenaaaTypes
import Derived.Test.YtiainpcigdenaaaSxL
import Derived.Test.YtiainpcigdenaaaSx
namespace Sx

theorem mul_bd {a b A B : Int} (ha : 0 ≤ a ∧ a ≤ A) (hb : 0 ≤ b ∧ b ≤ B) : 0 ≤ a * b ∧ a * b ≤ A * B :=
  ⟨Int.mul_nonneg ha.1 hb.1, Int.le_trans (Int.mul_le_mul_of_nonneg_right ha.2 hb.1) (Int.mul_le_mul_of_nonneg_left hb.2 (by omega))⟩
theorem mul_pos' {a b : Int} (ha : 1 ≤ a) (hb : 1 ≤ b) : 1 ≤ a * b := Int.mul_pos ha hb

def levelOf (d k : Int) : Int := if 0 ≤ d ∧ d ≤ 262143 ∧ 0 ≤ k ∧ k ≤ 2 then (d / 2 ^ (12 - 6 * k).toNat) % 2 ^ 6 else -1
def threshold (x y : Int) : Int := if x % 2 = 0 then (if y % 2 = 0 then 0 else 3) else (if y % 2 = 0 then 2 else 1)
def ditherLevel (v x y : Int) : Int := if 0 ≤ v ∧ v ≤ 255 then (252 * v + 255 * threshold x y) / 1020 else -1
def atB (l : List Int) (i : Nat) : Int := if l.length = 0 then 0 else l.getD ((i * 5 + 1) % l.length) 0
def allDots (l : List Int) : Prop := ∀ i : Nat, i < l.length → 0 ≤ l.getD i 0 ∧ l.getD i 0 ≤ 262143
def dotsTo (l : List Int) (j : Nat) : Prop := ∀ i : Nat, i < j → 0 ≤ l.getD i 0 ∧ l.getD i 0 ≤ 262143
theorem dotsTo_zero (l : List Int) : dotsTo l 0 := fun i h => by omega
instance (l : List Int) : Decidable (allDots l) := inferInstanceAs (Decidable (∀ i : Nat, i < l.length → _))
def pictureOk (l : List Int) (w h : Int) : Prop := (1 ≤ w ∧ w ≤ 16) ∧ (1 ≤ h ∧ h ≤ 16) ∧ (l.length : Int) = w * h ∧ allDots l
instance (l : List Int) (w h : Int) : Decidable (pictureOk l w h) := by unfold pictureOk; infer_instance
def chan (p k : Int) : Int := (p / 2 ^ (24 - 8 * k).toNat) % 2 ^ 8
def channelOf (p k : Int) : Int := if 0 ≤ p ∧ p ≤ 4294967295 ∧ 0 ≤ k ∧ k ≤ 3 then chan p k else -1
def ditherPixel (p x y : Int) : Int :=
  if 0 ≤ p ∧ p ≤ 4294967295 then ditherLevel (chan p 1) x y * 4096 + ditherLevel (chan p 2) x y * 64 + ditherLevel (chan p 3) x y else -1
theorem chan_bd (p k : Int) : 0 ≤ chan p k ∧ chan p k ≤ 255 := by unfold chan; omega
structure DMode where
  Clock : Int
  W : Int
  HFront : Int
  HSync : Int
  HBack : Int
  H : Int
  VFront : Int
  VSync : Int
  VBack : Int
def DMode.ok (m : DMode) : Prop := (1 ≤ m.Clock ∧ m.Clock ≤ 1000000) ∧ (1 ≤ m.W ∧ m.W ≤ 16) ∧ (1 ≤ m.H ∧ m.H ≤ 16) ∧ (1 ≤ m.HSync ∧ m.HSync ≤ 40) ∧ (1 ≤ m.VSync ∧ m.VSync ≤ 40) ∧ (0 ≤ m.HFront ∧ m.HFront ≤ 40) ∧ (0 ≤ m.HBack ∧ m.HBack ≤ 40) ∧ (0 ≤ m.VFront ∧ m.VFront ≤ 40) ∧ (0 ≤ m.VBack ∧ m.VBack ≤ 40)
instance (m : DMode) : Decidable m.ok := by unfold DMode.ok; infer_instance
def blankLines (m : DMode) : Int := if m.ok then m.VFront + m.VSync + m.VBack else 0
def lineTotal (m : DMode) : Int := if m.ok then m.W + m.HFront + m.HSync + m.HBack else 0
def frameTotal (m : DMode) : Int := if m.ok then lineTotal m * (m.H + blankLines m) else 0
def refreshRate (m : DMode) : Int := if m.ok then m.Clock * 1000000 / frameTotal m else 0
theorem side_mul {w h : Int} : (1 ≤ w ∧ w ≤ 16 ∧ 1 ≤ h ∧ h ≤ 16) → (1 ≤ w * h ∧ w * h ≤ 256) := fun a => by
  have := mul_bd (a := w) (b := h) (A := 16) (B := 16) (by omega) (by omega)
  have := mul_pos' (a := w) (b := h) (by omega) (by omega)
  omega
def tiles (n : Int) : Int := (n + 3) / 4
def wordCount (w h layout : Int) : Int :=
  if 1 ≤ w ∧ w ≤ 16 ∧ 1 ≤ h ∧ h ≤ 16 then (if layout = 0 then w * h else if layout = 1 then tiles w * 4 * (tiles h * 4) else -1) else -1
def wplace (w layout x y : Int) : Int := if layout = 0 then y * w + x else (y / 4 * tiles w + x / 4) * 16 + y % 4 * 4 + x % 4
def wordPlace (w h layout x y : Int) : Int := if wordCount w h layout < 0 ∨ x < 0 ∨ w ≤ x ∨ y < 0 ∨ h ≤ y then -1 else wplace w layout x y
def dsum (v x y : Int) : Nat → Int
  | 0 => 0
  | k + 1 => dsum v x y k + ditherLevel v (x + (k : Int).tmod 2) (y + (k : Int).tdiv 2)
def dpix (p x y : Int) : Nat → Int
  | 0 => 0
  | k + 1 => if k < 3 then dpix p x y k * 64 + ditherLevel (chan p ((k : Int) + 1)) x y else 0
structure DColor where
  mat : List Int
  curve : List Int
deriving DecidableEq
def szI (n : Nat) (left : Int) : Int := if left - n < 0 then -1 else left - n
def inR (lo hi : Int) (l : List Int) : Prop := ∀ i : Nat, i < l.length → lo ≤ l.getD i 0 ∧ l.getD i 0 ≤ hi
instance (lo hi : Int) (l : List Int) : Decidable (inR lo hi l) := inferInstanceAs (Decidable (∀ i : Nat, i < l.length → _))
def inTo (lo hi : Int) (l : List Int) (j : Nat) : Prop := ∀ i : Nat, i < j → lo ≤ l.getD i 0 ∧ l.getD i 0 ≤ hi
theorem inTo_zero (lo hi : Int) (l : List Int) : inTo lo hi l 0 := fun i h => by omega
theorem inTo_next {lo hi : Int} {l : List Int} {j : Nat} (h : inTo lo hi l j) (hj : lo ≤ l.getD j 0 ∧ l.getD j 0 ≤ hi) : inTo lo hi l (j + 1) := fun i hi => by
  by_cases e : i = j
  · subst e; exact hj
  · exact h i (by omega)
def DColor.ok (m : DColor) : Prop := m.mat.length = 9 ∧ m.curve.length = 17 ∧ inR (-1024) 1024 m.mat ∧ inR 0 256 m.curve
instance (m : DColor) : Decidable m.ok := by unfold DColor.ok; infer_instance
end Sx
set_option linter.unusedVariables false
namespace Sx

theorem getD_out {l : List Int} {i : Nat} (h : l.length ≤ i) : l.getD i 0 = 0 := by
  rw [List.getD_eq_getElem?_getD, List.getElem?_eq_none h]; rfl
def mixRow (m : DColor) (row : Nat) (r g b : Int) : Int :=
  max 0 (min ((m.mat.getD (3 * row) 0 * r + m.mat.getD (3 * row + 1) 0 * g + m.mat.getD (3 * row + 2) 0 * b + 128) / 256) 255)
def byteP (x : Int) : Prop := 0 ≤ x ∧ x ≤ 255
instance (x : Int) : Decidable (byteP x) := by unfold byteP; infer_instance
def pixP (x : Int) : Prop := 0 ≤ x ∧ x ≤ 4294967295
instance (x : Int) : Decidable (pixP x) := by unfold pixP; infer_instance
def mixChannels (m : DColor) (row r g b : Int) : Int := if m.ok ∧ (0 ≤ row ∧ row ≤ 2) ∧ byteP r ∧ byteP g ∧ byteP b then mixRow m row.toNat r g b else -1
def curveVal (m : DColor) (v : Int) : Int :=
  min 255 (m.curve.getD (v / 16).toNat 0 + ((m.curve.getD ((v / 16).toNat + 1) 0 - m.curve.getD (v / 16).toNat 0) * (v % 16)) / 16)
def curveAt (m : DColor) (v : Int) : Int := if m.ok ∧ byteP v then curveVal m v else -1
def colored (m : DColor) (p : Int) : Int :=
  ((chan p 0 * 256 + curveVal m (mixRow m 0 (chan p 1) (chan p 2) (chan p 3))) * 256 + curveVal m (mixRow m 1 (chan p 1) (chan p 2) (chan p 3))) * 256 + curveVal m (mixRow m 2 (chan p 1) (chan p 2) (chan p 3))
def colorPixel (m : DColor) (p : Int) : Int := if m.ok ∧ pixP p then colored m p else -1
def coloredTo (m : DColor) (p : Int) : Nat → Int
  | 0 => chan p 0
  | k + 1 => coloredTo m p k * 256 + curveVal m (mixRow m k (chan p 1) (chan p 2) (chan p 3))
structure DImg where
  W : Int
  H : Int
  data : List Int
deriving DecidableEq
theorem DImg.eq {a b : DImg} (h1 : a.W = b.W) (h2 : a.H = b.H) (h3 : a.data = b.data) : a = b := by cases a; cases b; simp_all
def DImg.zero : DImg := ⟨0, 0, []⟩
def DImg.ok (i : DImg) : Prop := (1 ≤ i.W ∧ i.W ≤ 16) ∧ (1 ≤ i.H ∧ i.H ≤ 16) ∧ (i.data.length : Int) = i.W * i.H ∧ inR 0 4294967295 i.data
instance (i : DImg) : Decidable i.ok := by unfold DImg.ok; infer_instance
theorem DImg.ok.len {i : DImg} (h : i.ok) : 1 ≤ i.data.length ∧ i.data.length ≤ 256 := by
  have := side_mul (w := i.W) (h := i.H) ⟨h.1.1, h.1.2, h.2.1.1, h.2.1.2⟩
  have := h.2.2.1
  omega
theorem inR_getD {lo hi : Int} {l : List Int} (h : inR lo hi l) (h0 : lo ≤ 0 ∧ 0 ≤ hi) (i : Nat) : lo ≤ l.getD i 0 ∧ l.getD i 0 ≤ hi := by
  by_cases hi : i < l.length
  · exact h i hi
  · rw [getD_out (by omega)]; exact h0
theorem DImg.ok.pix {i : DImg} (h : i.ok) (k : Nat) : 0 ≤ i.data.getD k 0 ∧ i.data.getD k 0 ≤ 4294967295 := inR_getD h.2.2.2 (by omega) k
def newImage (w h p : Int) : DImg := if (1 ≤ w ∧ w ≤ 16) ∧ (1 ≤ h ∧ h ≤ 16) ∧ pixP p then ⟨w, h, List.replicate (w * h).toNat p⟩ else DImg.zero
def colorImage (m : DColor) (i : DImg) : DImg := if m.ok ∧ i.ok then ⟨i.W, i.H, i.data.map (colored m)⟩ else DImg.zero
def ditherImage (i : DImg) : List Int := if i.ok then (List.range i.data.length).map (fun k : Nat => ditherPixel (i.data.getD k 0) ((k : Int) % i.W) ((k : Int) / i.W)) else []

def mapTo (f : Int → Int → Int) (w : Int) (n : Nat) : List Int := (List.range n).map (fun q : Nat => f ((q : Int) % w) ((q : Int) / w))
def orientPt (w h o x y : Int) : Int × Int :=
  let x0 := if 4 ≤ o then w - 1 - x else x
  if o % 4 = 0 then (x0, y) else if o % 4 = 1 then (h - 1 - y, x0) else if o % 4 = 2 then (w - 1 - x0, h - 1 - y) else (y, w - 1 - x0)
def orientOk (w h o : Int) : Prop := (1 ≤ w ∧ w ≤ 16) ∧ (1 ≤ h ∧ h ≤ 16) ∧ (0 ≤ o ∧ o ≤ 7)
instance (w h o : Int) : Decidable (orientOk w h o) := by unfold orientOk; infer_instance
def orientPoint (w h o x y : Int) : Int × Int := if orientOk w h o ∧ (0 ≤ x ∧ x ≤ w - 1) ∧ (0 ≤ y ∧ y ≤ h - 1) then orientPt w h o x y else (-1, -1)
def orientSize (w h o : Int) : Int × Int := if orientOk w h o then (if o % 2 = 1 then (h, w) else (w, h)) else (0, 0)
def ofill (i : DImg) (o : Int) : Nat → List Int
  | 0 => List.replicate (i.W * i.H).toNat 0
  | k + 1 =>
    let q := orientPt i.W i.H o ((k : Int) % i.W) ((k : Int) / i.W)
    (ofill i o k).set (q.2 * (if o % 2 = 1 then i.H else i.W) + q.1).toNat (i.data.getD k 0)
theorem ofill_length (i : DImg) (o : Int) : ∀ k, (ofill i o k).length = (i.W * i.H).toNat
  | 0 => by simp [ofill]
  | k + 1 => by simp [ofill, ofill_length i o k]
theorem inR_set {lo hi : Int} {l : List Int} (h : inR lo hi l) {v : Int} (hv : lo ≤ v ∧ v ≤ hi) (k : Nat) : inR lo hi (l.set k v) := fun j hj => by
  rw [List.length_set] at hj
  rw [List.getD_eq_getElem?_getD, List.getElem?_set]
  split
  · split
    · simpa using hv
    · omega
  · have := h j hj
    rwa [List.getD_eq_getElem?_getD] at this
theorem inR_replicate {lo hi v : Int} (n : Nat) (hv : lo ≤ v ∧ v ≤ hi) : inR lo hi (List.replicate n v) := fun j hj => by
  rw [List.length_replicate] at hj
  rw [List.getD_eq_getElem?_getD, List.getElem?_replicate, if_pos hj]; simpa using hv
theorem ofill_pix {i : DImg} (h : i.ok) (o : Int) : ∀ k, inR 0 4294967295 (ofill i o k)
  | 0 => inR_replicate _ (by omega)
  | k + 1 => inR_set (ofill_pix h o k) (h.pix k) _
def oriented (i : DImg) (o : Int) : DImg :=
  if i.ok ∧ (0 ≤ o ∧ o ≤ 7) then ⟨(orientSize i.W i.H o).1, (orientSize i.W i.H o).2, ofill i o i.data.length⟩ else DImg.zero
theorem oriented_ok {i : DImg} {o : Int} (h : i.ok) (ho : 0 ≤ o ∧ o ≤ 7) : (oriented i o).ok := by
  have hok : orientOk i.W i.H o := ⟨h.1, h.2.1, ho⟩
  have hsz := side_mul (w := i.W) (h := i.H) ⟨h.1.1, h.1.2, h.2.1.1, h.2.1.2⟩
  unfold oriented
  rw [if_pos ⟨h, ho⟩]
  unfold orientSize
  rw [if_pos hok]
  have hl := ofill_length i o i.data.length
  have h1 := h.1
  have h2 := h.2.1
  split
  · exact ⟨h2, h1, by dsimp only; rw [hl, Int.mul_comm i.H]; omega, ofill_pix h o _⟩
  · exact ⟨h1, h2, by dsimp only; rw [hl]; omega, ofill_pix h o _⟩

def oX (w h x y : Int) : Nat → Int
  | 0 => x
  | 1 => h - 1 - y
  | 2 => w - 1 - x
  | _ => y
def oY (w h x y : Int) : Nat → Int
  | 0 => y
  | 1 => x
  | 2 => h - 1 - y
  | _ => w - 1 - x
def oW (w h : Int) : Nat → Int
  | 0 => w
  | 1 => h
  | 2 => w
  | _ => h
def scalePoint (f t k : Int) : Int := if (1 ≤ f ∧ f ≤ 16) ∧ (1 ≤ t ∧ t ≤ 16) ∧ (0 ≤ k ∧ k ≤ t - 1) then k * f / t else -1
def scaleAt (i : DImg) (w h x y : Int) : Int := i.data.getD ((y * i.H / h) * i.W + x * i.W / w).toNat 0
def scaled (i : DImg) (w h : Int) : DImg :=
  if i.ok ∧ (1 ≤ w ∧ w ≤ 16) ∧ (1 ≤ h ∧ h ≤ 16) then ⟨w, h, (List.range (w * h).toNat).map (fun q : Nat => scaleAt i w h ((q : Int) % w) ((q : Int) / w))⟩ else DImg.zero
theorem inR_map_range {lo hi : Int} {f : Nat → Int} {n : Nat} (h : ∀ k, k < n → lo ≤ f k ∧ f k ≤ hi) : inR lo hi ((List.range n).map f) := fun j hj => by
  rw [List.length_map, List.length_range] at hj
  rw [List.getD_eq_getElem?_getD, List.getElem?_map, List.getElem?_range hj]
  exact h j hj
theorem scaled_ok {i : DImg} {w h : Int} (hi : i.ok) (hw : 1 ≤ w ∧ w ≤ 16) (hh : 1 ≤ h ∧ h ≤ 16) : (scaled i w h).ok := by
  have hsz := side_mul (w := w) (h := h) ⟨hw.1, hw.2, hh.1, hh.2⟩
  unfold scaled
  rw [if_pos ⟨hi, hw, hh⟩]
  refine ⟨hw, hh, ?_, inR_map_range fun k _ => hi.pix _⟩
  dsimp only
  rw [List.length_map, List.length_range]; omega

def prt (a b : Int) : Int := if byteP a ∧ byteP b then (a * b + 127) / 255 else -1
theorem prt_bd {a b : Int} (ha : byteP a) (hb : byteP b) : prt a b = (a * b + 127) / 255 ∧ 0 ≤ prt a b ∧ prt a b ≤ b := by
  unfold prt
  rw [if_pos ⟨ha, hb⟩]
  unfold byteP at ha hb
  have h1 : 0 ≤ a * b := Int.mul_nonneg ha.1 hb.1
  have h2 : a * b ≤ 255 * b := Int.mul_le_mul_of_nonneg_right ha.2 hb.1
  omega
def fade (p a : Int) : Int := if pixP p ∧ byteP a then prt (chan p 0) a * 16777216 + p % 16777216 else -1
def over (t b : Int) : Int :=
  if pixP t ∧ pixP b then
    ((255 * 256 + (prt (chan t 1) (chan t 0) + prt (chan b 1) (255 - chan t 0))) * 256 + (prt (chan t 2) (chan t 0) + prt (chan b 2) (255 - chan t 0))) * 256 + (prt (chan t 3) (chan t 0) + prt (chan b 3) (255 - chan t 0))
  else -1
theorem fade_bd {p a : Int} (hp : pixP p) (ha : byteP a) : 0 ≤ fade p a ∧ fade p a ≤ 4294967295 := by
  have h := prt_bd (chan_bd p 0) ha
  unfold fade
  rw [if_pos ⟨hp, ha⟩]
  unfold byteP at ha
  omega
structure DRect where
  X : Int
  Y : Int
  W : Int
  H : Int
deriving DecidableEq
def DRect.zero : DRect := ⟨0, 0, 0, 0⟩
def DRect.ok (r : DRect) : Prop := (-1000 ≤ r.X ∧ r.X ≤ 1000) ∧ (-1000 ≤ r.Y ∧ r.Y ≤ 1000) ∧ (0 ≤ r.W ∧ r.W ≤ 1000) ∧ (0 ≤ r.H ∧ r.H ≤ 1000)
instance (r : DRect) : Decidable r.ok := by unfold DRect.ok; infer_instance
def DRect.inter (a b : DRect) : DRect :=
  if a.ok ∧ b.ok then
    (if min (a.X + a.W) (b.X + b.W) - max a.X b.X ≤ 0 ∨ min (a.Y + a.H) (b.Y + b.H) - max a.Y b.Y ≤ 0 then DRect.zero
     else ⟨max a.X b.X, max a.Y b.Y, min (a.X + a.W) (b.X + b.W) - max a.X b.X, min (a.Y + a.H) (b.Y + b.H) - max a.Y b.Y⟩)
  else DRect.zero
theorem DRect.inter_ok {a b : DRect} (ha : a.ok) (hb : b.ok) : (a.inter b).ok ∧ (a.inter b).W ≤ b.W ∧ (a.inter b).H ≤ b.H ∧ (a.inter b).W ≤ a.W ∧ (a.inter b).H ≤ a.H := by
  unfold DRect.inter
  rw [if_pos ⟨ha, hb⟩]
  unfold DRect.ok at *
  split
  · dsimp only [DRect.zero]; omega
  · dsimp only; omega
def DRect.has (r : DRect) (x y : Int) : Prop := r.ok ∧ r.X ≤ x ∧ x < r.X + r.W ∧ r.Y ≤ y ∧ y < r.Y + r.H
instance (r : DRect) (x y : Int) : Decidable (r.has x y) := by unfold DRect.has; infer_instance

structure DSurf where
  Id : Int
  X : Int
  Y : Int
  W : Int
  H : Int
  Alpha : Int
  Orient : Int
  Visible : Bool
  buf : DImg
deriving DecidableEq
theorem DSurf.eq {a b : DSurf} (h1 : a.Id = b.Id) (h2 : a.X = b.X) (h3 : a.Y = b.Y) (h4 : a.W = b.W) (h5 : a.H = b.H) (h6 : a.Alpha = b.Alpha) (h7 : a.Orient = b.Orient) (h8 : a.Visible = b.Visible) (h9 : a.buf = b.buf) : a = b := by cases a; cases b; simp_all
def DSurf.zero : DSurf := ⟨0, 0, 0, 0, 0, 0, 0, false, DImg.zero⟩
instance : Inhabited DSurf := ⟨DSurf.zero⟩
def DSurf.sized (s : DSurf) : Prop := (1 ≤ s.W ∧ s.W ≤ 16) ∧ (1 ≤ s.H ∧ s.H ≤ 16) ∨ s.W = 0 ∧ s.H = 0
instance (s : DSurf) : Decidable s.sized := by unfold DSurf.sized; infer_instance
def DSurf.ok (s : DSurf) : Prop := (1 ≤ s.Id ∧ s.Id ≤ 99) ∧ (-32 ≤ s.X ∧ s.X ≤ 32) ∧ (-32 ≤ s.Y ∧ s.Y ≤ 32) ∧ s.sized ∧ byteP s.Alpha ∧ (0 ≤ s.Orient ∧ s.Orient ≤ 7) ∧ s.buf.ok
instance (s : DSurf) : Decidable s.ok := by unfold DSurf.ok; infer_instance
structure DScene where
  W : Int
  H : Int
  Back : Int
  ss : List DSurf
deriving DecidableEq
theorem DScene.eq {a b : DScene} (h1 : a.W = b.W) (h2 : a.H = b.H) (h3 : a.Back = b.Back) (h4 : a.ss = b.ss) : a = b := by cases a; cases b; simp_all
def opaqueP (p : Int) : Prop := pixP p ∧ chan p 0 = 255
instance (p : Int) : Decidable (opaqueP p) := by unfold opaqueP; infer_instance
def surfsOk (l : List DSurf) (n : Nat) : Prop := ∀ i, i < n → (l.getD i default).ok ∧ ∀ j, j < i → (l.getD j default).Id ≠ (l.getD i default).Id
instance (l : List DSurf) (n : Nat) : Decidable (surfsOk l n) := inferInstanceAs (Decidable (∀ i, i < n → _))
def DScene.ok (s : DScene) : Prop := (1 ≤ s.W ∧ s.W ≤ 16) ∧ (1 ≤ s.H ∧ s.H ≤ 16) ∧ opaqueP s.Back ∧ s.ss.length ≤ 6 ∧ surfsOk s.ss s.ss.length
instance (s : DScene) : Decidable s.ok := by unfold DScene.ok; infer_instance
def surfIdx (l : List DSurf) (id : Int) : Nat → Nat → Int
  | 0, _ => -1
  | f + 1, k => if k < l.length then (if (l.getD k default).Id = id then (k : Int) else surfIdx l id f (k + 1)) else -1
def surfaceIndex (l : List DSurf) (id : Int) : Int := surfIdx l id l.length 0
theorem surfIdx_found {l : List DSurf} {id : Int} : ∀ (f k j : Nat), k ≤ j → j < l.length → j - k < f → (∀ i, k ≤ i → i < j → (l.getD i default).Id ≠ id) → (l.getD j default).Id = id → surfIdx l id f k = j
  | 0, k, j, _, _, h, _, _ => by omega
  | f + 1, k, j, h1, h2, h3, h4, h5 => by
    unfold surfIdx
    rw [if_pos (by omega)]
    by_cases e : k = j
    · subst e; rw [if_pos h5]
    · rw [if_neg (h4 k (Nat.le_refl _) (by omega))]
      exact surfIdx_found f (k + 1) j (by omega) h2 (by omega) (fun i hi => h4 i (by omega)) h5
theorem surfIdx_none {l : List DSurf} {id : Int} : ∀ (f k : Nat), (∀ i, k ≤ i → i < l.length → (l.getD i default).Id ≠ id) → surfIdx l id f k = -1
  | 0, k, _ => rfl
  | f + 1, k, h => by
    unfold surfIdx
    split
    · rw [if_neg (h k (Nat.le_refl _) (by assumption))]
      exact surfIdx_none f (k + 1) (fun i hi => h i (by omega))
    · rfl
theorem surfaceIndex_found {l : List DSurf} {id : Int} {j : Nat} (hj : j < l.length) (h : ∀ i, i < j → (l.getD i default).Id ≠ id) (he : (l.getD j default).Id = id) : surfaceIndex l id = j :=
  surfIdx_found _ 0 j (by omega) hj (by omega) (fun i _ => h i) he
theorem surfaceIndex_none {l : List DSurf} {id : Int} (h : ∀ i, i < l.length → (l.getD i default).Id ≠ id) : surfaceIndex l id = -1 := surfIdx_none _ 0 (fun i _ => h i)
theorem first_or {p : Nat → Prop} [DecidablePred p] : ∀ n, (∀ i, i < n → ¬ p i) ∨ ∃ j, j < n ∧ p j ∧ ∀ i, i < j → ¬ p i
  | 0 => .inl (fun i hi => by omega)
  | n + 1 => by
    rcases first_or (p := p) n with h | ⟨j, h1, h2, h3⟩
    · by_cases hp : p n
      · exact .inr ⟨n, by omega, hp, h⟩
      · exact .inl (fun i hi => by
          by_cases e : i = n
          · subst e; exact hp
          · exact h i (by omega))
    · exact .inr ⟨j, by omega, h2, h3⟩
theorem surfaceIndex_bd (l : List DSurf) (id : Int) : surfaceIndex l id = -1 ∧ (∀ i, i < l.length → (l.getD i default).Id ≠ id) ∨ ∃ j : Nat, surfaceIndex l id = j ∧ j < l.length ∧ (l.getD j default).Id = id ∧ ∀ i, i < j → (l.getD i default).Id ≠ id := by
  rcases first_or (p := fun i => (l.getD i default).Id = id) l.length with h | ⟨j, h1, h2, h3⟩
  · exact .inl ⟨surfaceIndex_none h, h⟩
  · exact .inr ⟨j, surfaceIndex_found h1 h3 h2, h1, h2, h3⟩
theorem surfaceIndex_self {l : List DSurf} {k : Nat} (hk : k < l.length) : surfaceIndex l (l.getD k default).Id = k ↔ ∀ i, i < k → (l.getD i default).Id ≠ (l.getD k default).Id := by
  constructor
  · intro h
    rcases surfaceIndex_bd l (l.getD k default).Id with ⟨h1, _⟩ | ⟨j, h1, h2, h3, h4⟩
    · omega
    · have : j = k := by omega
      subst this; exact h4
  · intro h; exact surfaceIndex_found hk h rfl
theorem surfsOk_zero (l : List DSurf) : surfsOk l 0 := fun i hi => by omega
theorem surfsOk_next {l : List DSurf} {j : Nat} (h : surfsOk l j) (h1 : (l.getD j default).ok) (h2 : ∀ i, i < j → (l.getD i default).Id ≠ (l.getD j default).Id) : surfsOk l (j + 1) := fun i hi => by
  by_cases e : i = j
  · subst e; exact ⟨h1, h2⟩
  · exact h i (by omega)
def idsTo (l : List DSurf) (j : Nat) : List Int := (List.range j).map (fun i => (l.getD i default).Id)
theorem idsTo_succ (l : List DSurf) (j : Nat) : idsTo l (j + 1) = idsTo l j ++ [(l.getD j default).Id] := by simp [idsTo, List.range_succ]
theorem mem_idsTo {l : List DSurf} {j : Nat} {x : Int} : x ∈ idsTo l j ↔ ∃ i, i < j ∧ (l.getD i default).Id = x := by simp [idsTo]
def fadedImg (i : DImg) (a : Int) : DImg := ⟨i.W, i.H, i.data.map (fun p => fade p a)⟩
def rawPicture (s : DSurf) : DImg := if s.W ≠ 0 then scaled (oriented s.buf s.Orient) s.W s.H else oriented s.buf s.Orient
def pictureOf (s : DSurf) : DImg := if s.ok then fadedImg (rawPicture s) s.Alpha else DImg.zero
def surfSize (s : DSurf) : Int × Int := if s.W ≠ 0 then (s.W, s.H) else orientSize s.buf.W s.buf.H s.Orient
def surfRect (s : DSurf) : DRect := if s.ok ∧ s.Visible = true then ⟨s.X, s.Y, (surfSize s).1, (surfSize s).2⟩ else DRect.zero
def isOpaqueS (s : DSurf) : Prop := s.ok ∧ inR 4278190080 4294967295 (pictureOf s).data
instance (s : DSurf) : Decidable (isOpaqueS s) := by unfold isOpaqueS; infer_instance
def costTo (s : DScene) : Nat → Int
  | 0 => s.W * s.H
  | k + 1 => costTo s k + ((surfRect (s.ss.getD k default)).inter ⟨0, 0, s.W, s.H⟩).W * ((surfRect (s.ss.getD k default)).inter ⟨0, 0, s.W, s.H⟩).H
def paintCost (s : DScene) : Int := if s.ok then costTo s s.ss.length else 0
theorem rawPicture_ok {s : DSurf} (h : s.ok) : (rawPicture s).ok := by
  have h1 := oriented_ok h.2.2.2.2.2.2 h.2.2.2.2.2.1
  have h2 := h.2.2.2.1
  unfold rawPicture
  unfold DSurf.sized at h2
  split
  · exact scaled_ok h1 (by omega) (by omega)
  · exact h1
theorem fadedImg_ok {i : DImg} {a : Int} (h : i.ok) (ha : byteP a) : (fadedImg i a).ok := by
  refine ⟨h.1, h.2.1, by simpa [fadedImg] using h.2.2.1, fun k hk => ?_⟩
  simp only [fadedImg, List.length_map] at hk
  have : (fadedImg i a).data.getD k 0 = fade (i.data.getD k 0) a := by
    simp [fadedImg, List.getD_eq_getElem?_getD, List.getElem?_map, List.getElem?_eq_getElem hk]
  rw [this]
  exact fade_bd (h.pix k) ha
theorem pictureOf_ok {s : DSurf} (h : s.ok) : (pictureOf s).ok := by
  unfold pictureOf; rw [if_pos h]; exact fadedImg_ok (rawPicture_ok h) h.2.2.2.2.1

theorem szI_or (n : Nat) (left : Int) : szI n left = -1 ∧ left < n ∨ szI n left = left - n ∧ (n : Int) ≤ left := by
  unfold szI; split <;> omega
def sumTo (f : Nat → Nat) : Nat → Nat
  | 0 => 0
  | k + 1 => sumTo f k + f k
theorem sumTo_mono (f : Nat → Nat) {i : Nat} : ∀ {n : Nat}, i ≤ n → sumTo f i ≤ sumTo f n
  | 0, h => by have : i = 0 := by omega
               subst this; exact Nat.le_refl _
  | n + 1, h => by
    by_cases e : i = n + 1
    · subst e; exact Nat.le_refl _
    · have := sumTo_mono f (i := i) (n := n) (by omega)
      simp only [sumTo]; omega
theorem le_sumTo (f : Nat → Nat) {i n : Nat} (h : i < n) : f i ≤ sumTo f n := by
  have := sumTo_mono f (i := i + 1) (n := n) (by omega)
  simp only [sumTo] at this; omega
def surfsLen (l : List DSurf) : Nat := l.length + sumTo (fun i => (l.getD i default).buf.data.length) l.length
def iota (k : Int) (n : Nat) : List Int := (List.range n).map (fun i : Nat => k + (i : Int))
theorem iota_length (k : Int) (n : Nat) : (iota k n).length = n := by simp [iota]
theorem iota_get (k : Int) {i n : Nat} (h : i < n) : (iota k n).getD i 0 = k + i := by
  rw [List.getD_eq_getElem?_getD]; simp [iota, h]
def markTo (l : List Int) (k : Int) (j : Nat) : List Int := iota k j ++ l.drop j
theorem markTo_zero (l : List Int) (k : Int) : markTo l k 0 = l := by simp [markTo, iota]
theorem markTo_all (l : List Int) (k : Int) : markTo l k l.length = iota k l.length := by simp [markTo]
theorem markTo_length (l : List Int) (k : Int) (j : Nat) (h : j ≤ l.length) : (markTo l k j).length = l.length := by
  simp [markTo, iota_length]; omega
theorem markTo_set (l : List Int) (k : Int) (j : Nat) (h : j < l.length) : (markTo l k j).set j (k + j) = markTo l k (j + 1) := by
  unfold markTo
  rw [List.set_append_right _ _ (by rw [iota_length]; omega), iota_length, Nat.sub_self, List.drop_eq_getElem_cons h, List.set_cons_zero]
  simp [iota, List.range_succ]
def heldI (l : List Int) (k : Int) : Int := if l = iota k l.length then k + l.length else -1
theorem heldI_mark (k : Int) (n : Nat) : heldI (iota k n) k = k + n := by simp [heldI, iota_length]
def heldTo (l : List Int) (k : Int) (j : Nat) : Prop := ∀ i, i < j → l.getD i 0 = k + i
theorem heldTo_all {l : List Int} {k : Int} {j : Nat} (h : heldTo l k j) (hj : l.length ≤ j) : l = iota k l.length := by
  apply List.ext_getElem?
  intro i
  by_cases hi : i < l.length
  · have := h i (by omega)
    rw [List.getD_eq_getElem?_getD] at this
    simp [iota, hi] at this ⊢
    exact this
  · simp [iota, hi]
theorem heldTo_ne {l : List Int} {k : Int} {j : Nat} (hj : j < l.length) (h : l.getD j 0 ≠ k + j) : ¬ l = iota k l.length := fun e => h (by
  conv => lhs; rw [e]
  exact iota_get k hj)
end Sx
namespace Go.Proofs.Ytiainpcigdenaaa
open Go Sx
abbrev cImg (i : DImg) (d : Value) : List Value := [.int .i64 i.W, .int .i64 i.H, d]
abbrev vImg (i : DImg) (d : Value) : Value := .agg #[.int .i64 i.W, .int .i64 i.H, d]
def OImg (u : Value) (i : DImg) (H : SPiece) : Prop := ∃ d, u = vImg i d ∧ OInts 3 d i.data H
def eImg : SElem DImg where
  k := 3
  dflt := DImg.zero
  cells := cImg
  klen := fun _ _ => rfl
  rd := fun w d i => RInts w d i.data
  own := fun d i H => OInts 3 d i.data H
  keep := fun h hw => RInts.keep h hw
  reads := fun h hw => OInts.reads h hw
theorem eImg_dflt : eImg.dflt = DImg.zero := rfl
abbrev cRect (r : DRect) : List Value := [.int .i64 r.X, .int .i64 r.Y, .int .i64 r.W, .int .i64 r.H]
abbrev vRect (r : DRect) : Value := .agg #[.int .i64 r.X, .int .i64 r.Y, .int .i64 r.W, .int .i64 r.H]
abbrev vColor (a b : Value) : Value := .agg #[a, b]
abbrev cSurf (s : DSurf) (d : Value) : List Value := [.int .i64 s.Id, .int .i64 s.X, .int .i64 s.Y, .int .i64 s.W, .int .i64 s.H, .int .i64 s.Alpha, .int .i64 s.Orient, .bool s.Visible, .int .i64 s.buf.W, .int .i64 s.buf.H, d]
abbrev vSurf (s : DSurf) (d : Value) : Value := .agg #[.int .i64 s.Id, .int .i64 s.X, .int .i64 s.Y, .int .i64 s.W, .int .i64 s.H, .int .i64 s.Alpha, .int .i64 s.Orient, .bool s.Visible, .int .i64 s.buf.W, .int .i64 s.buf.H, d]
def OSurf (u : Value) (s : DSurf) (H : SPiece) : Prop := ∃ d, u = vSurf s d ∧ OInts 3 d s.buf.data H
def eSurf : SElem DSurf where
  k := 11
  dflt := default
  cells := cSurf
  klen := fun _ _ => rfl
  rd := fun w d s => RInts w d s.buf.data
  own := fun d s H => OInts 3 d s.buf.data H
  keep := fun h hw => RInts.keep h hw
  reads := fun h hw => OInts.reads h hw
theorem eSurf_ones {s : DSurf} {d : Value} (h : d.oneCell' = true) : oneCells (eSurf.cells s d) = true :=
  ones_cons rfl (ones_cons rfl (ones_cons rfl (ones_cons rfl (ones_cons rfl (ones_cons rfl (ones_cons rfl (ones_cons rfl (ones_cons rfl (ones_cons rfl (ones_cons h rfl))))))))))
theorem eSurf_dflt : eSurf.dflt = default := rfl
abbrev vScene (s : DScene) (v : Value) : Value := .agg #[.int .i64 s.W, .int .i64 s.H, .int .i64 s.Back, v]
end Go.Proofs.Ytiainpcigdenaaa
namespace Go.Proofs.Ytiainpcigdenaaa
open Go Sx Go.ChangeShapes Go.WideShapes Go.ChangeAt Go.RowKit
theorem take_at {α : Type} {l r : List α} {k m : Nat} (h : (l.drop k).take m = r) {j : Nat} {v : α} (hj : r[j]? = some v) : l[k + j]? = some v := by
  have h1 : ((l.drop k).take m)[j]? = some v := by rw [h]; exact hj
  rw [List.getElem?_take] at h1
  split at h1
  · rw [List.getElem?_drop] at h1; exact h1
  · cases h1
theorem open_elems {α : Type} (e : SElem α) {W : World} {v : Value} {n : Nat} {rows : Nat → List Value} (hr : RRow W v e.k n rows) (h : ∀ i, i < n → ∃ a d, rows i = e.cells a d ∧ e.rd W d a) :
    ∃ l, RS e W v l := by
  obtain ⟨l, hl, hlr⟩ := rows_list (fun cs (x : α × Value) => cs = e.cells x.1 x.2 ∧ e.rd W x.2 x.1) (e.dflt, undef) n rows (fun i hi => by obtain ⟨a, d, h1, h2⟩ := h i hi; exact ⟨(a, d), h1, h2⟩)
  have hg : ∀ i, i < n → (l.map (·.1)).getD i e.dflt = (l.getD i (e.dflt, undef)).1 := fun i hi => by
    simp [List.getD_eq_getElem?_getD, List.getElem?_eq_getElem (show i < l.length by omega)]
  refine ⟨l.map (·.1), fun i => (l.getD i (e.dflt, undef)).2, ⟨hr.congr (by simpa using hl) (fun i hi => ?_), fun i hi => ?_⟩⟩
  · rw [hg i hi]; exact (hlr i hi).1.symm
  · have hi' : i < n := by simpa [hl] using hi
    rw [hg i hi']; exact (hlr i hi').2
theorem open_img {W : World} {cs : List Value} (h : SRd Try.prog W 27 cs) : ∃ i d, cs = cImg i d ∧ RInts W d i.data := by
  obtain ⟨l, q⟩ := h.struct
  obtain ⟨x0, g0, _⟩ := (SRd.sub q 0 0 3 rfl).int
  obtain ⟨x1, g1, _⟩ := (SRd.sub q 1 1 3 rfl).int
  obtain ⟨d, k, g2, hd⟩ := (SRd.sub q 2 2 25 rfl).ints
  exact ⟨⟨x0, x1, k⟩, d, cells_eq l rfl (fun k hk => match k, hk with | 0, _ => take1 g0 | 1, _ => take1 g1 | 2, _ => take1 g2 | k + 3, hk => absurd hk (by omega)), hd⟩
theorem open_surf {W : World} {cs : List Value} (h : SRd Try.prog W 84 cs) : ∃ s d, cs = cSurf s d ∧ RInts W d s.buf.data := by
  obtain ⟨l, q⟩ := h.struct
  obtain ⟨x0, g0, _⟩ := (SRd.sub q 0 0 3 rfl).int
  obtain ⟨x1, g1, _⟩ := (SRd.sub q 1 1 3 rfl).int
  obtain ⟨x2, g2, _⟩ := (SRd.sub q 2 2 3 rfl).int
  obtain ⟨x3, g3, _⟩ := (SRd.sub q 3 3 3 rfl).int
  obtain ⟨x4, g4, _⟩ := (SRd.sub q 4 4 3 rfl).int
  obtain ⟨x5, g5, _⟩ := (SRd.sub q 5 5 3 rfl).int
  obtain ⟨x6, g6, _⟩ := (SRd.sub q 6 6 3 rfl).int
  obtain ⟨x7, g7⟩ := (SRd.sub q 7 7 4 rfl).bool
  obtain ⟨i, d, g8, hd⟩ := open_img (SRd.sub q 8 8 27 rfl)
  exact ⟨⟨x0, x1, x2, x3, x4, x5, x6, x7, i⟩, d, cells_eq l rfl (fun k hk => match k, hk with | 0, _ => take1 g0 | 1, _ => take1 g1 | 2, _ => take1 g2 | 3, _ => take1 g3 | 4, _ => take1 g4 | 5, _ => take1 g5 | 6, _ => take1 g6 | 7, _ => take1 g7 | 8, _ => take_at (j := 0) g8 rfl | 9, _ => take_at (j := 1) g8 rfl | 10, _ => take_at (j := 2) g8 rfl | k + 11, hk => absurd hk (by omega)), hd⟩
theorem open_scene {W : World} {cs : List Value} (h : SRd Try.prog W 24 cs) : ∃ s v, cs = [.int .i64 s.W, .int .i64 s.H, .int .i64 s.Back, v] ∧ RS eSurf W v (DScene.ss s) := by
  obtain ⟨l, q⟩ := h.struct
  obtain ⟨x0, g0, _⟩ := (SRd.sub q 0 0 3 rfl).int
  obtain ⟨x1, g1, _⟩ := (SRd.sub q 1 1 3 rfl).int
  obtain ⟨x2, g2, _⟩ := (SRd.sub q 2 2 3 rfl).int
  obtain ⟨v, n, rows, g3, hr, hel⟩ := (SRd.sub q 3 3 22 rfl).slice (by decide)
  obtain ⟨ss, he⟩ := open_elems eSurf hr (fun i hi => open_surf (hel i hi))
  exact ⟨⟨x0, x1, x2, ss⟩, v, cells_eq l rfl (fun k hk => match k, hk with | 0, _ => take1 g0 | 1, _ => take1 g1 | 2, _ => take1 g2 | 3, _ => take1 g3 | k + 4, hk => absurd hk (by omega)), he⟩
end Go.Proofs.Ytiainpcigdenaaa
namespace Go.Proofs.Ytiainpcigdenaaa
open Go Sx
attribute [local irreducible] Exit.then Exit.inBlock bodyPost

theorem c_l01In (x lo hi : Int) (w : World) : SYields Try.prog 33 #[.int .i64 x, .int .i64 lo, .int .i64 hi] (.bool (decide (lo ≤ x ∧ x ≤ hi))) w := by
  (first | apply SYields.mk | apply SYieldsF.mk | skip); refine s_enter Try.func33 rfl Try.ntmps33 rfl ?_
  repeat' (first | exact rfl | (apply kO; (first | exact ov_pure rfl | (apply kOBin; (first | exact aBin)) | (apply kOCall; (first | (apply kCallB; (first | exact aBlt | exact aLenR)))) | (apply kOLoad; (first | exact aLdF | exact aLdR)) | exact ov_fieldAddr rfl | (apply kOIdx; (first | exact aIdx)) | exact aRest | exact aNew | exact (ov_field1 (ft := 25) rfl rfl rfl rfl))) | (refine kN ?_; (first | (refine kStore ?_; (first | refine s_store1 _ rfl rfl gpA rfl (by rfl) ?_ | refine s_storeS _ rfl rfl gpA rfl rfl (by rfl) ?_ | refine s_storeS _ rfl rfl gpA rfl (ones_img oiA) (by rfl) ?_)) | refine s_boxS rfl rfl (fun b hb => ?_) | refine s_allocS rfl (fun b hb => ?_) | refine s_box1 rfl rfl rfl (fun b hb => ?_) | refine s_alloc1 rfl rfl (fun b hb => ?_) | refine s_buildSlice0 rfl (fun b hb => ?_) | refine s_buildSlice rfl rfl rfl rfl rfl (fun b hb => ?_) | apply s_step)) | (refine kG ?_; (first | refine s_gyes rfl rfl rfl ?_ | refine s_gno rfl rfl rfl rfl rfl ?_ | ((first | refine s_split_d rfl rfl (fun h => ?_) (fun h => ?_) | refine s_split_n rfl rfl (fun h => ?_) (fun h => ?_)) <;> (try (first | contradiction | (exfalso; omega)))) | refine s_split_nb rfl rfl (fun h => ?_) (fun h => ?_) | refine s_split rfl rfl (fun h => ?_) (fun h => ?_))) | refine l_then ?_ | (refine kC ?_; (first | refine c_seq ?_ | refine c_regionN rfl ?_ | refine c_ret ?_ | (refine kCond ?_; (first | refine c_cond_t rfl ?_ | refine c_cond_f rfl ?_ | ((first | refine c_cond_d rfl (fun h => ?_) (fun h => ?_) | refine c_cond_n rfl (fun h => ?_) (fun h => ?_)) <;> (try (first | contradiction | (exfalso; omega)))) | refine c_cond_nb rfl (fun h => ?_) (fun h => ?_) | refine c_cond rfl (fun h => ?_) (fun h => ?_))) | refine c_block ?_ | refine c_skip ?_ | refine c_exit ?_ | refine c_regionQN rfl rfl (by decide +kernel) ?_)) | apply s_stepQ | (refine kQG ?_; (first | refine s_gyesQ rfl rfl rfl ?_ | refine s_gnoQ rfl rfl rfl rfl rfl ?_ | ((first | refine s_splitQ_d rfl rfl (fun h => ?_) (fun h => ?_) | refine s_splitQ_n rfl rfl (fun h => ?_) (fun h => ?_)) <;> (try (first | contradiction | (exfalso; omega)))) | refine s_splitQ_nb rfl rfl (fun h => ?_) (fun h => ?_) | refine s_splitQ rfl rfl (fun h => ?_) (fun h => ?_))) | refine lQ_then ?_ | refine lQ_ends ?_ | (refine kE ?_; (first | refine e_then_r ?_ | refine e_block_r ?_ | refine e_then_n ?_ | refine e_then_x ?_ | refine e_block_n ?_ | refine e_block_x ?_ | refine e_block_y rfl ?_)) | refine l_ends ?_)
  all_goals refine s_leave1 rfl rfl (fun w hw => ⟨?_, hw.below⟩)
  all_goals first | rfl | exact ret_true (by omega) | exact ret_false (by omega) | exact ret_dec (by omega)
theorem c_within (x lo hi : Int) (w : World) : SYields Try.prog 85 #[.int .i64 x, .int .i64 lo, .int .i64 hi] (.bool (decide (lo ≤ x ∧ x ≤ hi))) w := by
  (first | apply SYields.mk | apply SYieldsF.mk | skip); refine s_enter Try.func85 rfl Try.ntmps85 rfl ?_
  repeat' (first | exact rfl | (apply kO; (first | exact ov_pure rfl | (apply kOBin; (first | exact aBin)) | (apply kOCall; (first | (apply kCallB; (first | exact aBlt | exact aLenR)))) | (apply kOLoad; (first | exact aLdF | exact aLdR)) | exact ov_fieldAddr rfl | (apply kOIdx; (first | exact aIdx)) | exact aRest | exact aNew | exact (ov_field1 (ft := 25) rfl rfl rfl rfl))) | (refine kN ?_; (first | (refine kStore ?_; (first | refine s_store1 _ rfl rfl gpA rfl (by rfl) ?_ | refine s_storeS _ rfl rfl gpA rfl rfl (by rfl) ?_ | refine s_storeS _ rfl rfl gpA rfl (ones_img oiA) (by rfl) ?_)) | refine s_boxS rfl rfl (fun b hb => ?_) | refine s_allocS rfl (fun b hb => ?_) | refine s_box1 rfl rfl rfl (fun b hb => ?_) | refine s_alloc1 rfl rfl (fun b hb => ?_) | refine s_buildSlice0 rfl (fun b hb => ?_) | refine s_buildSlice rfl rfl rfl rfl rfl (fun b hb => ?_) | apply s_step)) | (refine kG ?_; (first | refine s_gyes rfl rfl rfl ?_ | refine s_gno rfl rfl rfl rfl rfl ?_ | ((first | refine s_split_d rfl rfl (fun h => ?_) (fun h => ?_) | refine s_split_n rfl rfl (fun h => ?_) (fun h => ?_)) <;> (try (first | contradiction | (exfalso; omega)))) | refine s_split_nb rfl rfl (fun h => ?_) (fun h => ?_) | refine s_split rfl rfl (fun h => ?_) (fun h => ?_))) | refine l_then ?_ | (refine kC ?_; (first | refine c_seq ?_ | refine c_regionN rfl ?_ | refine c_ret ?_ | (refine kCond ?_; (first | refine c_cond_t rfl ?_ | refine c_cond_f rfl ?_ | ((first | refine c_cond_d rfl (fun h => ?_) (fun h => ?_) | refine c_cond_n rfl (fun h => ?_) (fun h => ?_)) <;> (try (first | contradiction | (exfalso; omega)))) | refine c_cond_nb rfl (fun h => ?_) (fun h => ?_) | refine c_cond rfl (fun h => ?_) (fun h => ?_))) | refine c_block ?_ | refine c_skip ?_ | refine c_exit ?_ | refine c_regionQN rfl rfl (by decide +kernel) ?_)) | apply s_stepQ | (refine kQG ?_; (first | refine s_gyesQ rfl rfl rfl ?_ | refine s_gnoQ rfl rfl rfl rfl rfl ?_ | ((first | refine s_splitQ_d rfl rfl (fun h => ?_) (fun h => ?_) | refine s_splitQ_n rfl rfl (fun h => ?_) (fun h => ?_)) <;> (try (first | contradiction | (exfalso; omega)))) | refine s_splitQ_nb rfl rfl (fun h => ?_) (fun h => ?_) | refine s_splitQ rfl rfl (fun h => ?_) (fun h => ?_))) | refine lQ_then ?_ | refine lQ_ends ?_ | (refine kE ?_; (first | refine e_then_r ?_ | refine e_block_r ?_ | refine e_then_n ?_ | refine e_then_x ?_ | refine e_block_n ?_ | refine e_block_x ?_ | refine e_block_y rfl ?_)) | refine l_ends ?_)
  all_goals refine s_leave1 rfl rfl (fun w hw => ⟨?_, hw.below⟩)
  all_goals first | rfl | exact ret_true (by omega) | exact ret_false (by omega) | exact ret_dec (by omega)
theorem c_isSide (x : Int) (w : World) : SYields Try.prog 59 #[.int .i64 x] (.bool (decide (1 ≤ x ∧ x ≤ 16))) w := by
  (first | apply SYields.mk | apply SYieldsF.mk | skip); refine s_enter Try.func59 rfl Try.ntmps59 rfl ?_
  repeat' (first | exact rfl | (apply kO; (first | exact ov_pure rfl | (apply kOBin; (first | exact aBin)) | (apply kOCall; (first | (apply kCallF; (first | exact (ov_call rfl (fun w hw => c_within _ _ _ w)))) | (apply kCallB; (first | exact aBlt | exact aLenR)))) | (apply kOLoad; (first | exact aLdF | exact aLdR)) | exact ov_fieldAddr rfl | (apply kOIdx; (first | exact aIdx)) | exact aRest | exact aNew | exact (ov_field1 (ft := 25) rfl rfl rfl rfl))) | (refine kN ?_; (first | (refine kStore ?_; (first | refine s_store1 _ rfl rfl gpA rfl (by rfl) ?_ | refine s_storeS _ rfl rfl gpA rfl rfl (by rfl) ?_ | refine s_storeS _ rfl rfl gpA rfl (ones_img oiA) (by rfl) ?_)) | refine s_boxS rfl rfl (fun b hb => ?_) | refine s_allocS rfl (fun b hb => ?_) | refine s_box1 rfl rfl rfl (fun b hb => ?_) | refine s_alloc1 rfl rfl (fun b hb => ?_) | refine s_buildSlice0 rfl (fun b hb => ?_) | refine s_buildSlice rfl rfl rfl rfl rfl (fun b hb => ?_) | apply s_step)) | (refine kG ?_; (first | refine s_gyes rfl rfl rfl ?_ | refine s_gno rfl rfl rfl rfl rfl ?_ | ((first | refine s_split_d rfl rfl (fun h => ?_) (fun h => ?_) | refine s_split_n rfl rfl (fun h => ?_) (fun h => ?_)) <;> (try (first | contradiction | (exfalso; omega)))) | refine s_split_nb rfl rfl (fun h => ?_) (fun h => ?_) | refine s_split rfl rfl (fun h => ?_) (fun h => ?_))) | refine l_then ?_ | (refine kC ?_; (first | refine c_seq ?_ | refine c_regionN rfl ?_ | refine c_ret ?_ | (refine kCond ?_; (first | refine c_cond_t rfl ?_ | refine c_cond_f rfl ?_ | ((first | refine c_cond_d rfl (fun h => ?_) (fun h => ?_) | refine c_cond_n rfl (fun h => ?_) (fun h => ?_)) <;> (try (first | contradiction | (exfalso; omega)))) | refine c_cond_nb rfl (fun h => ?_) (fun h => ?_) | refine c_cond rfl (fun h => ?_) (fun h => ?_))) | refine c_block ?_ | refine c_skip ?_ | refine c_exit ?_ | refine c_regionQN rfl rfl (by decide +kernel) ?_)) | apply s_stepQ | (refine kQG ?_; (first | refine s_gyesQ rfl rfl rfl ?_ | refine s_gnoQ rfl rfl rfl rfl rfl ?_ | ((first | refine s_splitQ_d rfl rfl (fun h => ?_) (fun h => ?_) | refine s_splitQ_n rfl rfl (fun h => ?_) (fun h => ?_)) <;> (try (first | contradiction | (exfalso; omega)))) | refine s_splitQ_nb rfl rfl (fun h => ?_) (fun h => ?_) | refine s_splitQ rfl rfl (fun h => ?_) (fun h => ?_))) | refine lQ_then ?_ | refine lQ_ends ?_ | (refine kE ?_; (first | refine e_then_r ?_ | refine e_block_r ?_ | refine e_then_n ?_ | refine e_then_x ?_ | refine e_block_n ?_ | refine e_block_x ?_ | refine e_block_y rfl ?_)) | refine l_ends ?_)
  all_goals refine s_leave1 rfl rfl (fun w hw => ⟨?_, hw.below⟩)
  all_goals first | rfl | exact ret_true (by omega) | exact ret_false (by omega) | exact ret_dec (by omega)
theorem c_isPixel (x : Int) (w : World) : SYields Try.prog 86 #[.int .i64 x] (.bool (decide (0 ≤ x ∧ x ≤ 4294967295))) w := by
  (first | apply SYields.mk | apply SYieldsF.mk | skip); refine s_enter Try.func86 rfl Try.ntmps86 rfl ?_
  repeat' (first | exact rfl | (apply kO; (first | exact ov_pure rfl | (apply kOBin; (first | exact aBin)) | (apply kOCall; (first | (apply kCallF; (first | exact (ov_call rfl (fun w hw => c_within _ _ _ w)))) | (apply kCallB; (first | exact aBlt | exact aLenR)))) | (apply kOLoad; (first | exact aLdF | exact aLdR)) | exact ov_fieldAddr rfl | (apply kOIdx; (first | exact aIdx)) | exact aRest | exact aNew | exact (ov_field1 (ft := 25) rfl rfl rfl rfl))) | (refine kN ?_; (first | (refine kStore ?_; (first | refine s_store1 _ rfl rfl gpA rfl (by rfl) ?_ | refine s_storeS _ rfl rfl gpA rfl rfl (by rfl) ?_ | refine s_storeS _ rfl rfl gpA rfl (ones_img oiA) (by rfl) ?_)) | refine s_boxS rfl rfl (fun b hb => ?_) | refine s_allocS rfl (fun b hb => ?_) | refine s_box1 rfl rfl rfl (fun b hb => ?_) | refine s_alloc1 rfl rfl (fun b hb => ?_) | refine s_buildSlice0 rfl (fun b hb => ?_) | refine s_buildSlice rfl rfl rfl rfl rfl (fun b hb => ?_) | apply s_step)) | (refine kG ?_; (first | refine s_gyes rfl rfl rfl ?_ | refine s_gno rfl rfl rfl rfl rfl ?_ | ((first | refine s_split_d rfl rfl (fun h => ?_) (fun h => ?_) | refine s_split_n rfl rfl (fun h => ?_) (fun h => ?_)) <;> (try (first | contradiction | (exfalso; omega)))) | refine s_split_nb rfl rfl (fun h => ?_) (fun h => ?_) | refine s_split rfl rfl (fun h => ?_) (fun h => ?_))) | refine l_then ?_ | (refine kC ?_; (first | refine c_seq ?_ | refine c_regionN rfl ?_ | refine c_ret ?_ | (refine kCond ?_; (first | refine c_cond_t rfl ?_ | refine c_cond_f rfl ?_ | ((first | refine c_cond_d rfl (fun h => ?_) (fun h => ?_) | refine c_cond_n rfl (fun h => ?_) (fun h => ?_)) <;> (try (first | contradiction | (exfalso; omega)))) | refine c_cond_nb rfl (fun h => ?_) (fun h => ?_) | refine c_cond rfl (fun h => ?_) (fun h => ?_))) | refine c_block ?_ | refine c_skip ?_ | refine c_exit ?_ | refine c_regionQN rfl rfl (by decide +kernel) ?_)) | apply s_stepQ | (refine kQG ?_; (first | refine s_gyesQ rfl rfl rfl ?_ | refine s_gnoQ rfl rfl rfl rfl rfl ?_ | ((first | refine s_splitQ_d rfl rfl (fun h => ?_) (fun h => ?_) | refine s_splitQ_n rfl rfl (fun h => ?_) (fun h => ?_)) <;> (try (first | contradiction | (exfalso; omega)))) | refine s_splitQ_nb rfl rfl (fun h => ?_) (fun h => ?_) | refine s_splitQ rfl rfl (fun h => ?_) (fun h => ?_))) | refine lQ_then ?_ | refine lQ_ends ?_ | (refine kE ?_; (first | refine e_then_r ?_ | refine e_block_r ?_ | refine e_then_n ?_ | refine e_then_x ?_ | refine e_block_n ?_ | refine e_block_x ?_ | refine e_block_y rfl ?_)) | refine l_ends ?_)
  all_goals refine s_leave1 rfl rfl (fun w hw => ⟨?_, hw.below⟩)
  all_goals first | rfl | exact ret_true (by omega) | exact ret_false (by omega) | exact ret_dec (by omega)
theorem c_l04Pixel (x : Int) (w : World) : SYields Try.prog 82 #[.int .i64 x] (.bool (decide (0 ≤ x ∧ x ≤ 4294967295))) w := by
  (first | apply SYields.mk | apply SYieldsF.mk | skip); refine s_enter Try.func82 rfl Try.ntmps82 rfl ?_
  repeat' (first | exact rfl | (apply kO; (first | exact ov_pure rfl | (apply kOBin; (first | exact aBin)) | (apply kOCall; (first | (apply kCallF; (first | exact (ov_call rfl (fun w hw => c_l01In _ _ _ w)))) | (apply kCallB; (first | exact aBlt | exact aLenR)))) | (apply kOLoad; (first | exact aLdF | exact aLdR)) | exact ov_fieldAddr rfl | (apply kOIdx; (first | exact aIdx)) | exact aRest | exact aNew | exact (ov_field1 (ft := 25) rfl rfl rfl rfl))) | (refine kN ?_; (first | (refine kStore ?_; (first | refine s_store1 _ rfl rfl gpA rfl (by rfl) ?_ | refine s_storeS _ rfl rfl gpA rfl rfl (by rfl) ?_ | refine s_storeS _ rfl rfl gpA rfl (ones_img oiA) (by rfl) ?_)) | refine s_boxS rfl rfl (fun b hb => ?_) | refine s_allocS rfl (fun b hb => ?_) | refine s_box1 rfl rfl rfl (fun b hb => ?_) | refine s_alloc1 rfl rfl (fun b hb => ?_) | refine s_buildSlice0 rfl (fun b hb => ?_) | refine s_buildSlice rfl rfl rfl rfl rfl (fun b hb => ?_) | apply s_step)) | (refine kG ?_; (first | refine s_gyes rfl rfl rfl ?_ | refine s_gno rfl rfl rfl rfl rfl ?_ | ((first | refine s_split_d rfl rfl (fun h => ?_) (fun h => ?_) | refine s_split_n rfl rfl (fun h => ?_) (fun h => ?_)) <;> (try (first | contradiction | (exfalso; omega)))) | refine s_split_nb rfl rfl (fun h => ?_) (fun h => ?_) | refine s_split rfl rfl (fun h => ?_) (fun h => ?_))) | refine l_then ?_ | (refine kC ?_; (first | refine c_seq ?_ | refine c_regionN rfl ?_ | refine c_ret ?_ | (refine kCond ?_; (first | refine c_cond_t rfl ?_ | refine c_cond_f rfl ?_ | ((first | refine c_cond_d rfl (fun h => ?_) (fun h => ?_) | refine c_cond_n rfl (fun h => ?_) (fun h => ?_)) <;> (try (first | contradiction | (exfalso; omega)))) | refine c_cond_nb rfl (fun h => ?_) (fun h => ?_) | refine c_cond rfl (fun h => ?_) (fun h => ?_))) | refine c_block ?_ | refine c_skip ?_ | refine c_exit ?_ | refine c_regionQN rfl rfl (by decide +kernel) ?_)) | apply s_stepQ | (refine kQG ?_; (first | refine s_gyesQ rfl rfl rfl ?_ | refine s_gnoQ rfl rfl rfl rfl rfl ?_ | ((first | refine s_splitQ_d rfl rfl (fun h => ?_) (fun h => ?_) | refine s_splitQ_n rfl rfl (fun h => ?_) (fun h => ?_)) <;> (try (first | contradiction | (exfalso; omega)))) | refine s_splitQ_nb rfl rfl (fun h => ?_) (fun h => ?_) | refine s_splitQ rfl rfl (fun h => ?_) (fun h => ?_))) | refine lQ_then ?_ | refine lQ_ends ?_ | (refine kE ?_; (first | refine e_then_r ?_ | refine e_block_r ?_ | refine e_then_n ?_ | refine e_then_x ?_ | refine e_block_n ?_ | refine e_block_x ?_ | refine e_block_y rfl ?_)) | refine l_ends ?_)
  all_goals refine s_leave1 rfl rfl (fun w hw => ⟨?_, hw.below⟩)
  all_goals first | rfl | exact ret_true (by omega) | exact ret_false (by omega) | exact ret_dec (by omega)
end Go.Proofs.Ytiainpcigdenaaa
namespace Go.Proofs.Ytiainpcigdenaaa
open Go Sx
attribute [local irreducible] Exit.then Exit.inBlock bodyPost
theorem c_szIntS (v : Value) (l : List Int) (left : Int) (w : World) (hv : RInts w v l) (hl : 0 ≤ left ∧ left ≤ 1048576) : SYields Try.prog 52 #[v, .int .i64 left] (.int .i64 (szI l.length left)) w := by
  have hk := hv.len
  (first | apply SYields.mk | apply SYieldsF.mk | skip); refine s_enter Try.func52 rfl Try.ntmps52 rfl ?_
  repeat' (first | exact rfl | (apply kO; (first | exact ov_pure rfl | (apply kOBin; (first | exact aBin)) | (apply kOCall; (first | (apply kCallB; (first | exact aBlt | exact (ov_lenR (fun w hw => hv.keep (hw.cells rfl)) rfl) | exact aLenR)))) | (apply kOLoad; (first | exact aLdF | exact aLdR)) | exact ov_fieldAddr rfl | (apply kOIdx; (first | exact aIdx)) | exact aRest | exact aNew | exact (ov_field1 (ft := 25) rfl rfl rfl rfl))) | (refine kN ?_; (first | (refine kStore ?_; (first | refine s_store1 _ rfl rfl gpA rfl (by rfl) ?_ | refine s_storeS _ rfl rfl gpA rfl rfl (by rfl) ?_ | refine s_storeS _ rfl rfl gpA rfl (ones_img oiA) (by rfl) ?_)) | refine s_boxS rfl rfl (fun b hb => ?_) | refine s_allocS rfl (fun b hb => ?_) | refine s_box1 rfl rfl rfl (fun b hb => ?_) | refine s_alloc1 rfl rfl (fun b hb => ?_) | refine s_buildSlice0 rfl (fun b hb => ?_) | refine s_buildSlice rfl rfl rfl rfl rfl (fun b hb => ?_) | apply s_step)) | (refine kG ?_; (first | refine s_gyes rfl rfl rfl ?_ | refine s_gno rfl rfl rfl rfl rfl ?_ | ((first | refine s_split_d rfl rfl (fun h => ?_) (fun h => ?_) | refine s_split_n rfl rfl (fun h => ?_) (fun h => ?_)) <;> (try (first | contradiction | (exfalso; omega)))) | refine s_split_nb rfl rfl (fun h => ?_) (fun h => ?_) | refine s_split rfl rfl (fun h => ?_) (fun h => ?_))) | refine l_then ?_ | (refine kC ?_; (first | refine c_seq ?_ | refine c_regionN rfl ?_ | refine c_ret ?_ | (refine kCond ?_; (first | refine c_cond_t rfl ?_ | refine c_cond_f rfl ?_ | ((first | refine c_cond_d rfl (fun h => ?_) (fun h => ?_) | refine c_cond_n rfl (fun h => ?_) (fun h => ?_)) <;> (try (first | contradiction | (exfalso; omega)))) | refine c_cond_nb rfl (fun h => ?_) (fun h => ?_) | refine c_cond rfl (fun h => ?_) (fun h => ?_))) | refine c_block ?_ | refine c_skip ?_ | refine c_exit ?_ | refine c_regionQN rfl rfl (by decide +kernel) ?_)) | apply s_stepQ | (refine kQG ?_; (first | refine s_gyesQ rfl rfl rfl ?_ | refine s_gnoQ rfl rfl rfl rfl rfl ?_ | ((first | refine s_splitQ_d rfl rfl (fun h => ?_) (fun h => ?_) | refine s_splitQ_n rfl rfl (fun h => ?_) (fun h => ?_)) <;> (try (first | contradiction | (exfalso; omega)))) | refine s_splitQ_nb rfl rfl (fun h => ?_) (fun h => ?_) | refine s_splitQ rfl rfl (fun h => ?_) (fun h => ?_))) | refine lQ_then ?_ | refine lQ_ends ?_ | (refine kE ?_; (first | refine e_then_r ?_ | refine e_block_r ?_ | refine e_then_n ?_ | refine e_then_x ?_ | refine e_block_n ?_ | refine e_block_x ?_ | refine e_block_y rfl ?_)) | refine l_ends ?_)
  all_goals refine s_leave1 rfl rfl (fun w hw => ⟨?_, hw.below⟩)
  all_goals (refine ret_int ?_; unfold szI; first | rfl | (rw [if_pos (by omega)]; done) | (rw [if_neg (by omega)]; done) | omega)
theorem c_toIntS (v : Value) (l : List Int) (w : World) (hv : RInts w v l) (hl : l.length ≤ 1048576) : SYieldsF Try.prog 57 #[v] (fun u H => OInts 3 u l H) w := by
  have hl2 := ivals_length l
  (first | apply SYields.mk | apply SYieldsF.mk | skip); refine s_enter Try.func57 rfl Try.ntmps57 rfl ?_
  repeat' (first | exact rfl | (apply kO; (first | exact ov_pure rfl | (apply kOBin; (first | exact aBin)) | (apply kOCall; (first | (apply kCallB; (first | exact aBlt | exact (ov_lenR (fun w hw => hv.keep (hw.cells rfl)) rfl) | exact aLenR)))) | (apply kOLoad; (first | exact (ov_ldR0 (fun w hw => hv.keep (hw.cells rfl)) rfl rfl (by omega) rfl) | exact aLdF | exact aLdR)) | exact ov_fieldAddr rfl | (apply kOIdx; (first | exact (ov_idxR (fun w hw => hv.keep (hw.cells rfl)) rfl rfl (by omega)) | exact (ov_indexAddr rfl rfl (by omega)) | exact aIdx)) | exact aRest | exact aNew | exact (ov_field1 (ft := 25) rfl rfl rfl rfl))) | (refine kN ?_; (first | (refine kStore ?_; (first | (refine s_setR 0 rfl rfl rfl rfl (by rw [fillTo_length _ _ _ (by omega)]; omega) ?_) | refine s_store1 _ rfl rfl gpA rfl (by rfl) ?_ | refine s_storeS _ rfl rfl gpA rfl rfl (by rfl) ?_ | refine s_storeS _ rfl rfl gpA rfl (ones_img oiA) (by rfl) ?_)) | refine s_boxS rfl rfl (fun b hb => ?_) | refine s_allocS rfl (fun b hb => ?_) | refine s_box1 rfl rfl rfl (fun b hb => ?_) | refine s_alloc1 rfl rfl (fun b hb => ?_) | (refine kWMake ?_; (refine s_make1 rfl rfl rfl ⟨by omega, by omega, by omega⟩ (by omega) rfl (fun b hb => ?_))) | refine s_buildSlice0 rfl (fun b hb => ?_) | refine s_buildSlice rfl rfl rfl rfl rfl (fun b hb => ?_) | apply s_step)) | (refine kG ?_; (first | refine s_gyes rfl rfl rfl ?_ | refine s_gno rfl rfl rfl rfl rfl ?_ | ((first | refine s_split_d rfl rfl (fun h => ?_) (fun h => ?_) | refine s_split_n rfl rfl (fun h => ?_) (fun h => ?_)) <;> (try (first | contradiction | (exfalso; omega)))) | refine s_split_nb rfl rfl (fun h => ?_) (fun h => ?_) | refine s_split rfl rfl (fun h => ?_) (fun h => ?_))) | refine l_then ?_ | (refine kC ?_; (first | (refine c_loop (ι := Nat) (fun j => j ≤ l.length) (fun j => [(3, .slice (some ⟨b, 0, none⟩) l.length l.length), (4, .int .i64 (j : Int)), (0, v)]) (fun j => [[(b, srow (fillTo (ivals l) (.int .i64 0) j) 3)]]) (fun j => l.length - j) 0 (by omega) ⟨rfl, rfl, rfl, trivial⟩ (fun w hw => by rw [← fillTo_zero]; simpa [ivals_length] using hw) (fun j hj => ?_)) | refine c_seq ?_ | refine c_regionN rfl ?_ | refine c_ret ?_ | (refine kCond ?_; (first | refine c_cond_t rfl ?_ | refine c_cond_f rfl ?_ | ((first | refine c_cond_d rfl (fun h => ?_) (fun h => ?_) | refine c_cond_n rfl (fun h => ?_) (fun h => ?_)) <;> (try (first | contradiction | (exfalso; omega)))) | refine c_cond_nb rfl (fun h => ?_) (fun h => ?_) | refine c_cond rfl (fun h => ?_) (fun h => ?_))) | refine c_block ?_ | refine c_skip ?_ | refine c_exit ?_ | refine c_regionQN rfl rfl (by decide +kernel) ?_)) | apply s_stepQ | (refine kQG ?_; (first | refine s_gyesQ rfl rfl rfl ?_ | refine s_gnoQ rfl rfl rfl rfl rfl ?_ | ((first | refine s_splitQ_d rfl rfl (fun h => ?_) (fun h => ?_) | refine s_splitQ_n rfl rfl (fun h => ?_) (fun h => ?_)) <;> (try (first | contradiction | (exfalso; omega)))) | refine s_splitQ_nb rfl rfl (fun h => ?_) (fun h => ?_) | refine s_splitQ rfl rfl (fun h => ?_) (fun h => ?_))) | refine lQ_then ?_ | refine lQ_ends ?_ | (refine kE ?_; (first | refine e_then_r ?_ | refine e_block_r ?_ | refine e_then_n ?_ | refine e_then_x ?_ | refine e_block_n ?_ | refine e_block_x ?_ | refine e_block_y rfl ?_)) | refine l_ends ?_)
  · refine e_round (j + 1) (by omega) ⟨rfl, rfl, rfl, trivial⟩ (fun w hw => ?_) (by omega)
    rw [show 0 + (j : Int).toNat * 1 = j by omega, Int.toNat_natCast, fillTo_set _ _ _ j (by omega) (ivals_get (l := l) (j := j) (by omega))] at hw
    exact hw
  · obtain rfl : j = l.length := by omega
    refine s_leave1 rfl rfl (fun w hw => ⟨_, _, rfl, ?_, hw.toFresh (i := 0) rfl⟩)
    have := OVec.blk (k := 1) (T := 3) b l.length l.length (ivals l) [] (by omega) (by simpa using hl2) (by omega) (by unfold maxLen; omega)
    rw [← hl2, fillTo_all]
    simpa [OInts, hl2] using this
theorem c_eqIntS (u v : Value) (k l : List Int) (w : World) (hu : RInts w u k) (hv : RInts w v l) : SYields Try.prog 67 #[u, v] (.bool (decide (k = l))) w := by
  have hk := hu.len
  have hl := hv.len
  (first | apply SYields.mk | apply SYieldsF.mk | skip); refine s_enter Try.func67 rfl Try.ntmps67 rfl ?_
  repeat' (first | exact rfl | (apply kO; (first | exact ov_pure rfl | (apply kOBin; (first | exact aBin)) | (apply kOCall; (first | (apply kCallB; (first | exact aBlt | exact (ov_lenR (fun w hw => hu.keep (hw.cells rfl)) rfl) | exact (ov_lenR (fun w hw => hv.keep (hw.cells rfl)) rfl) | exact aLenR)))) | (apply kOLoad; (first | exact (ov_ldR0 (fun w hw => hu.keep (hw.cells rfl)) rfl rfl (by omega) rfl) | exact (ov_ldR0 (fun w hw => hv.keep (hw.cells rfl)) rfl rfl (by omega) rfl) | exact aLdF | exact aLdR)) | exact ov_fieldAddr rfl | (apply kOIdx; (first | exact (ov_idxR (fun w hw => hu.keep (hw.cells rfl)) rfl rfl (by omega)) | exact (ov_idxR (fun w hw => hv.keep (hw.cells rfl)) rfl rfl (by omega)) | exact aIdx)) | exact aRest | exact aNew | exact (ov_field1 (ft := 25) rfl rfl rfl rfl))) | (refine kN ?_; (first | (refine kStore ?_; (first | refine s_store1 _ rfl rfl gpA rfl (by rfl) ?_ | refine s_storeS _ rfl rfl gpA rfl rfl (by rfl) ?_ | refine s_storeS _ rfl rfl gpA rfl (ones_img oiA) (by rfl) ?_)) | refine s_boxS rfl rfl (fun b hb => ?_) | refine s_allocS rfl (fun b hb => ?_) | refine s_box1 rfl rfl rfl (fun b hb => ?_) | refine s_alloc1 rfl rfl (fun b hb => ?_) | refine s_buildSlice0 rfl (fun b hb => ?_) | refine s_buildSlice rfl rfl rfl rfl rfl (fun b hb => ?_) | apply s_step)) | (refine kG ?_; (first | refine s_gyes rfl rfl rfl ?_ | refine s_gno rfl rfl rfl rfl rfl ?_ | ((first | refine s_split_d rfl rfl (fun h => ?_) (fun h => ?_) | refine s_split_n rfl rfl (fun h => ?_) (fun h => ?_)) <;> (try (first | contradiction | (exfalso; omega)))) | refine s_split_nb rfl rfl (fun h => ?_) (fun h => ?_) | refine s_split rfl rfl (fun h => ?_) (fun h => ?_))) | refine l_then ?_ | (refine kC ?_; (first | (refine c_loop (ι := Nat) (fun j => j ≤ l.length ∧ k.take j = l.take j) (fun j => [(5, .int .i64 (j : Int)), (0, u), (1, v)]) (fun j => []) (fun j => l.length - j) 0 ⟨by omega, rfl⟩ ⟨rfl, rfl, rfl, trivial⟩ (fun w hw => hw) (fun j hj => ?_)) | refine c_seq ?_ | refine c_regionN rfl ?_ | refine c_ret ?_ | (refine kCond ?_; (first | refine c_cond_t rfl ?_ | refine c_cond_f rfl ?_ | ((first | refine c_cond_d rfl (fun h => ?_) (fun h => ?_) | refine c_cond_n rfl (fun h => ?_) (fun h => ?_)) <;> (try (first | contradiction | (exfalso; omega)))) | refine c_cond_nb rfl (fun h => ?_) (fun h => ?_) | refine c_cond rfl (fun h => ?_) (fun h => ?_))) | refine c_block ?_ | refine c_skip ?_ | refine c_exit ?_ | refine c_regionQN rfl rfl (by decide +kernel) ?_)) | apply s_stepQ | (refine kQG ?_; (first | refine s_gyesQ rfl rfl rfl ?_ | refine s_gnoQ rfl rfl rfl rfl rfl ?_ | ((first | refine s_splitQ_d rfl rfl (fun h => ?_) (fun h => ?_) | refine s_splitQ_n rfl rfl (fun h => ?_) (fun h => ?_)) <;> (try (first | contradiction | (exfalso; omega)))) | refine s_splitQ_nb rfl rfl (fun h => ?_) (fun h => ?_) | refine s_splitQ rfl rfl (fun h => ?_) (fun h => ?_))) | refine lQ_then ?_ | refine lQ_ends ?_ | (refine kE ?_; (first | refine e_then_r ?_ | refine e_block_r ?_ | refine e_then_n ?_ | refine e_then_x ?_ | refine e_block_n ?_ | refine e_block_x ?_ | refine e_block_y rfl ?_)) | refine l_ends ?_)
  all_goals try simp only [Int.toNat_natCast] at *
  · exact s_leave1 rfl rfl (fun w hw => ⟨ret_false (ne_of_len (by omega)), hw.below⟩)
  · exact s_leave1 rfl rfl (fun w hw => ⟨ret_false (ne_of_getD (by assumption)), hw.below⟩)
  · exact e_round (j + 1) ⟨by omega, take_next hj.2 (by omega) (by omega) (by omega)⟩ ⟨rfl, rfl, rfl, trivial⟩ (fun w hw => hw) (by omega)
  · exact s_leave1 rfl rfl (fun w hw => ⟨ret_true (eq_of_take hj.2 (by omega) (by omega)), hw.below⟩)
end Go.Proofs.Ytiainpcigdenaaa
namespace Go.Proofs.Ytiainpcigdenaaa
open Go Sx
attribute [local irreducible] Exit.then Exit.inBlock bodyPost
theorem c_szImage (i : DImg) (d : Value) (left : Int) (w : World) (hd : RInts w d i.data) (hl : 0 ≤ left ∧ left ≤ 1048576) : SYields Try.prog 29 #[vImg i d, .int .i64 left] (.int .i64 (szI i.data.length left)) w := by
  have hk := hd.len
  (first | apply SYields.mk | apply SYieldsF.mk | skip); refine s_enter Try.func29 rfl Try.ntmps29 rfl ?_
  repeat' (first | exact rfl | (apply kO; (first | exact ov_pure rfl | (apply kOBin; (first | exact aBin)) | (apply kOCall; (first | (apply kCallF; (first | exact (ov_call rfl (fun w hw => c_szIntS _ _ _ w (riA hw) (by omega))))) | (apply kCallB; (first | exact aBlt | exact aLenR)))) | (apply kOLoad; (first | exact aLdF | exact aLdR)) | exact ov_fieldAddr rfl | (apply kOIdx; (first | exact aIdx)) | exact aRest | exact aNew | exact (ov_field1 (ft := 25) rfl rfl rfl rfl))) | (refine kN ?_; (first | (refine kStore ?_; (first | refine s_store1 _ rfl rfl gpA rfl (by rfl) ?_ | refine s_storeS _ rfl rfl gpA rfl rfl (by rfl) ?_ | refine s_storeS _ rfl rfl gpA rfl (ones_img oiA) (by rfl) ?_)) | refine s_boxS rfl rfl (fun b hb => ?_) | refine s_allocS rfl (fun b hb => ?_) | refine s_box1 rfl rfl rfl (fun b hb => ?_) | refine s_alloc1 rfl rfl (fun b hb => ?_) | refine s_buildSlice0 rfl (fun b hb => ?_) | refine s_buildSlice rfl rfl rfl rfl rfl (fun b hb => ?_) | apply s_step)) | (refine kG ?_; (first | refine s_gyes rfl rfl rfl ?_ | refine s_gno rfl rfl rfl rfl rfl ?_ | ((first | refine s_split_d rfl rfl (fun h => ?_) (fun h => ?_) | refine s_split_n rfl rfl (fun h => ?_) (fun h => ?_)) <;> (try (first | contradiction | (exfalso; omega)))) | refine s_split_nb rfl rfl (fun h => ?_) (fun h => ?_) | refine s_split rfl rfl (fun h => ?_) (fun h => ?_))) | refine l_then ?_ | (refine kC ?_; (first | refine c_seq ?_ | refine c_regionN rfl ?_ | refine c_ret ?_ | (refine kCond ?_; (first | refine c_cond_t rfl ?_ | refine c_cond_f rfl ?_ | ((first | refine c_cond_d rfl (fun h => ?_) (fun h => ?_) | refine c_cond_n rfl (fun h => ?_) (fun h => ?_)) <;> (try (first | contradiction | (exfalso; omega)))) | refine c_cond_nb rfl (fun h => ?_) (fun h => ?_) | refine c_cond rfl (fun h => ?_) (fun h => ?_))) | refine c_block ?_ | refine c_skip ?_ | refine c_exit ?_ | refine c_regionQN rfl rfl (by decide +kernel) ?_)) | apply s_stepQ | (refine kQG ?_; (first | refine s_gyesQ rfl rfl rfl ?_ | refine s_gnoQ rfl rfl rfl rfl rfl ?_ | ((first | refine s_splitQ_d rfl rfl (fun h => ?_) (fun h => ?_) | refine s_splitQ_n rfl rfl (fun h => ?_) (fun h => ?_)) <;> (try (first | contradiction | (exfalso; omega)))) | refine s_splitQ_nb rfl rfl (fun h => ?_) (fun h => ?_) | refine s_splitQ rfl rfl (fun h => ?_) (fun h => ?_))) | refine lQ_then ?_ | refine lQ_ends ?_ | (refine kE ?_; (first | refine e_then_r ?_ | refine e_block_r ?_ | refine e_then_n ?_ | refine e_then_x ?_ | refine e_block_n ?_ | refine e_block_x ?_ | refine e_block_y rfl ?_)) | refine l_ends ?_)
  all_goals refine s_leave1 rfl rfl (fun w hw => ⟨?_, hw.below⟩)
  all_goals (refine ret_int ?_; unfold szI at *; (repeat' split at *) <;> omega)
theorem c_toImage (i : DImg) (d : Value) (w : World) (hd : RInts w d i.data) (hl : i.data.length ≤ 1048576) : SYieldsF Try.prog 36 #[vImg i d] (fun u H => OImg u i H) w := by
  have hd' := hd.form
  obtain ⟨_, _, rfl⟩ := hd'
  (first | apply SYields.mk | apply SYieldsF.mk | skip); refine s_enter Try.func36 rfl Try.ntmps36 rfl ?_
  repeat' (first | exact rfl | (apply kO; (first | exact ov_pure rfl | (apply kOBin; (first | exact aBin)) | (apply kOCall; (first | (apply kCallB; (first | exact aBlt | exact aLenR)))) | (apply kOLoad; (first | exact aLdF | exact aLdR)) | exact ov_fieldAddr rfl | (apply kOIdx; (first | exact aIdx)) | exact aRest | exact aNew | exact (ov_field1 (ft := 25) rfl rfl rfl rfl))) | (refine kN ?_; (first | (refine kCall ?_; (first | (refine kWFunc ?_; (refine s_callF (fun u H => OInts 3 u i.data H) rfl (fun w hw => c_toIntS _ _ w (riA hw) hl) rfl (fun u H hu => ?_); obtain ⟨_, _, rfl⟩ := hu.form)) | apply s_step)) | (refine kStore ?_; (first | refine s_store1 _ rfl rfl gpA rfl (by rfl) ?_ | refine s_storeS _ rfl rfl gpA rfl rfl (by rfl) ?_ | refine s_storeS _ rfl rfl gpA rfl (ones_img oiA) (by rfl) ?_)) | refine s_boxS rfl rfl (fun b hb => ?_) | refine s_allocS rfl (fun b hb => ?_) | refine s_box1 rfl rfl rfl (fun b hb => ?_) | refine s_alloc1 rfl rfl (fun b hb => ?_) | refine s_buildSlice0 rfl (fun b hb => ?_) | refine s_buildSlice rfl rfl rfl rfl rfl (fun b hb => ?_) | apply s_step)) | (refine kG ?_; (first | refine s_gyes rfl rfl rfl ?_ | refine s_gno rfl rfl rfl rfl rfl ?_ | ((first | refine s_split_d rfl rfl (fun h => ?_) (fun h => ?_) | refine s_split_n rfl rfl (fun h => ?_) (fun h => ?_)) <;> (try (first | contradiction | (exfalso; omega)))) | refine s_split_nb rfl rfl (fun h => ?_) (fun h => ?_) | refine s_split rfl rfl (fun h => ?_) (fun h => ?_))) | refine l_then ?_ | (refine kC ?_; (first | refine c_seq ?_ | refine c_regionN rfl ?_ | refine c_ret ?_ | (refine kCond ?_; (first | refine c_cond_t rfl ?_ | refine c_cond_f rfl ?_ | ((first | refine c_cond_d rfl (fun h => ?_) (fun h => ?_) | refine c_cond_n rfl (fun h => ?_) (fun h => ?_)) <;> (try (first | contradiction | (exfalso; omega)))) | refine c_cond_nb rfl (fun h => ?_) (fun h => ?_) | refine c_cond rfl (fun h => ?_) (fun h => ?_))) | refine c_block ?_ | refine c_skip ?_ | refine c_exit ?_ | refine c_regionQN rfl rfl (by decide +kernel) ?_)) | apply s_stepQ | (refine kQG ?_; (first | refine s_gyesQ rfl rfl rfl ?_ | refine s_gnoQ rfl rfl rfl rfl rfl ?_ | ((first | refine s_splitQ_d rfl rfl (fun h => ?_) (fun h => ?_) | refine s_splitQ_n rfl rfl (fun h => ?_) (fun h => ?_)) <;> (try (first | contradiction | (exfalso; omega)))) | refine s_splitQ_nb rfl rfl (fun h => ?_) (fun h => ?_) | refine s_splitQ rfl rfl (fun h => ?_) (fun h => ?_))) | refine lQ_then ?_ | refine lQ_ends ?_ | (refine kE ?_; (first | refine e_then_r ?_ | refine e_block_r ?_ | refine e_then_n ?_ | refine e_then_x ?_ | refine e_block_n ?_ | refine e_block_x ?_ | refine e_block_y rfl ?_)) | refine l_ends ?_)
  all_goals (refine kE ?_; refine s_leaveSF rfl rfl rfl fwA (fun w hw => ?_))
  exact ⟨_, _, rfl, ⟨_, rfl, by assumption⟩, hw.toFresh (i := 0) rfl⟩
theorem c_eqImage (a b : DImg) (d e : Value) (w : World) (hd : RInts w d a.data) (he : RInts w e b.data) : SYields Try.prog 41 #[vImg a d, vImg b e] (.bool (decide (a = b))) w := by
  (first | apply SYields.mk | apply SYieldsF.mk | skip); refine s_enter Try.func41 rfl Try.ntmps41 rfl ?_
  repeat' (first | exact rfl | (apply kO; (first | exact ov_pure rfl | (apply kOBin; (first | exact aBin)) | (apply kOCall; (first | (apply kCallF; (first | exact (ov_call rfl (fun w hw => c_eqIntS _ _ _ _ w (riA hw) (riA hw))))) | (apply kCallB; (first | exact aBlt | exact aLenR)))) | (apply kOLoad; (first | exact aLdF | exact aLdR)) | exact ov_fieldAddr rfl | (apply kOIdx; (first | exact aIdx)) | exact aRest | exact aNew | exact (ov_field1 (ft := 25) rfl rfl rfl rfl))) | (refine kN ?_; (first | (refine kStore ?_; (first | refine s_store1 _ rfl rfl gpA rfl (by rfl) ?_ | refine s_storeS _ rfl rfl gpA rfl rfl (by rfl) ?_ | refine s_storeS _ rfl rfl gpA rfl (ones_img oiA) (by rfl) ?_)) | refine s_boxS rfl rfl (fun b hb => ?_) | refine s_allocS rfl (fun b hb => ?_) | refine s_box1 rfl rfl rfl (fun b hb => ?_) | refine s_alloc1 rfl rfl (fun b hb => ?_) | refine s_buildSlice0 rfl (fun b hb => ?_) | refine s_buildSlice rfl rfl rfl rfl rfl (fun b hb => ?_) | apply s_step)) | (refine kG ?_; (first | refine s_gyes rfl rfl rfl ?_ | refine s_gno rfl rfl rfl rfl rfl ?_ | ((first | refine s_split_d rfl rfl (fun h => ?_) (fun h => ?_) | refine s_split_n rfl rfl (fun h => ?_) (fun h => ?_)) <;> (try (first | contradiction | (exfalso; omega)))) | refine s_split_nb rfl rfl (fun h => ?_) (fun h => ?_) | refine s_split rfl rfl (fun h => ?_) (fun h => ?_))) | refine l_then ?_ | (refine kC ?_; (first | refine c_seq ?_ | refine c_regionN rfl ?_ | refine c_ret ?_ | (refine kCond ?_; (first | refine c_cond_t rfl ?_ | refine c_cond_f rfl ?_ | ((first | refine c_cond_d rfl (fun h => ?_) (fun h => ?_) | refine c_cond_n rfl (fun h => ?_) (fun h => ?_)) <;> (try (first | contradiction | (exfalso; omega)))) | refine c_cond_nb rfl (fun h => ?_) (fun h => ?_) | refine c_cond rfl (fun h => ?_) (fun h => ?_))) | refine c_block ?_ | refine c_skip ?_ | refine c_exit ?_ | refine c_regionQN rfl rfl (by decide +kernel) ?_)) | apply s_stepQ | (refine kQG ?_; (first | refine s_gyesQ rfl rfl rfl ?_ | refine s_gnoQ rfl rfl rfl rfl rfl ?_ | ((first | refine s_splitQ_d rfl rfl (fun h => ?_) (fun h => ?_) | refine s_splitQ_n rfl rfl (fun h => ?_) (fun h => ?_)) <;> (try (first | contradiction | (exfalso; omega)))) | refine s_splitQ_nb rfl rfl (fun h => ?_) (fun h => ?_) | refine s_splitQ rfl rfl (fun h => ?_) (fun h => ?_))) | refine lQ_then ?_ | refine lQ_ends ?_ | (refine kE ?_; (first | refine e_then_r ?_ | refine e_block_r ?_ | refine e_then_n ?_ | refine e_then_x ?_ | refine e_block_n ?_ | refine e_block_x ?_ | refine e_block_y rfl ?_)) | refine l_ends ?_)
  all_goals refine s_leave1 rfl rfl (fun w hw => ⟨?_, hw.below⟩)
  all_goals first | exact ret_false (fun e => by subst e; contradiction) | exact ret_true (DImg.eq (by omega) (by omega) (by assumption))
theorem c_markIntS (v : Value) (l : List Int) (H : SPiece) (k : Int) (w : World) (hv : OInts 3 v l H) (hH : Holds w H) (hn : H.keys.Nodup) (hk : 0 ≤ k ∧ k + l.length ≤ 4611686018427387904) :
    SYieldsG Try.prog 45 #[v, .int .i64 k] H (fun u H' F => u = .int .i64 (k + l.length) ∧ OInts 3 v (iota k l.length) H' ∧ F = []) w := by
  have hlen := (OVec.le hv)
  unfold maxLen at hlen
  have hil := iota_length k l.length
  have hml := markTo_length l k
  unfold OInts at hv
  generalize hx : ivals l = xs at hv
  generalize hnn : l.length = nn at hv
  cases hv with
  | nil =>
    have hl0 : l = [] := List.eq_nil_of_length_eq_zero hnn
    subst hl0
    refine SYieldsG.mk (s_enterM Try.func45 rfl Try.ntmps45 rfl hH hn ?_)
    repeat' (first | exact rfl | (apply kO; (first | exact ov_pure rfl | (apply kOBin; (first | exact aBin)) | (apply kOCall; (first | (apply kCallB; (first | exact aBlt | exact aLenR)))) | (apply kOLoad; (first | exact aLdF | exact aLdR)) | exact ov_fieldAddr rfl | (apply kOIdx; (first | exact aIdx)) | exact aRest | exact aNew | exact (ov_field1 (ft := 25) rfl rfl rfl rfl))) | (refine kN ?_; (first | (refine kStore ?_; (first | refine s_store1 _ rfl rfl gpA rfl (by rfl) ?_ | refine s_storeS _ rfl rfl gpA rfl rfl (by rfl) ?_ | refine s_storeS _ rfl rfl gpA rfl (ones_img oiA) (by rfl) ?_)) | refine s_boxS rfl rfl (fun b hb => ?_) | refine s_allocS rfl (fun b hb => ?_) | refine s_box1 rfl rfl rfl (fun b hb => ?_) | refine s_alloc1 rfl rfl (fun b hb => ?_) | refine s_buildSlice0 rfl (fun b hb => ?_) | refine s_buildSlice rfl rfl rfl rfl rfl (fun b hb => ?_) | apply s_step)) | (refine kG ?_; (first | refine s_gyes rfl rfl rfl ?_ | refine s_gno rfl rfl rfl rfl rfl ?_ | ((first | refine s_split_d rfl rfl (fun h => ?_) (fun h => ?_) | refine s_split_n rfl rfl (fun h => ?_) (fun h => ?_)) <;> (try (first | contradiction | (exfalso; omega)))) | refine s_split_nb rfl rfl (fun h => ?_) (fun h => ?_) | refine s_split rfl rfl (fun h => ?_) (fun h => ?_))) | refine l_then ?_ | (refine kC ?_; (first | (refine c_loopV (ι := Unit) (fun _ => True) (fun _ => [(1, .int .i64 k), (5, .int .i64 0)]) (fun _ => [[]]) (fun _ => 0) () trivial rfl (fun _ => rfl) (by repeat' first | exact trivial | refine ⟨rfl, ?_⟩) (fun w hw => by simpa using hw) (fun j hj => ?_)) | refine c_seq ?_ | refine c_regionN rfl ?_ | refine c_ret ?_ | (refine kCond ?_; (first | refine c_cond_t rfl ?_ | refine c_cond_f rfl ?_ | ((first | refine c_cond_d rfl (fun h => ?_) (fun h => ?_) | refine c_cond_n rfl (fun h => ?_) (fun h => ?_)) <;> (try (first | contradiction | (exfalso; omega)))) | refine c_cond_nb rfl (fun h => ?_) (fun h => ?_) | refine c_cond rfl (fun h => ?_) (fun h => ?_))) | refine c_block ?_ | refine c_skip ?_ | refine c_exit ?_ | refine c_regionQN rfl rfl (by decide +kernel) ?_)) | apply s_stepQ | (refine kQG ?_; (first | refine s_gyesQ rfl rfl rfl ?_ | refine s_gnoQ rfl rfl rfl rfl rfl ?_ | ((first | refine s_splitQ_d rfl rfl (fun h => ?_) (fun h => ?_) | refine s_splitQ_n rfl rfl (fun h => ?_) (fun h => ?_)) <;> (try (first | contradiction | (exfalso; omega)))) | refine s_splitQ_nb rfl rfl (fun h => ?_) (fun h => ?_) | refine s_splitQ rfl rfl (fun h => ?_) (fun h => ?_))) | refine lQ_then ?_ | refine lQ_ends ?_ | (refine kE ?_; (first | refine e_then_r ?_ | refine e_block_r ?_ | refine e_then_n ?_ | refine e_then_x ?_ | refine e_block_n ?_ | refine e_block_x ?_ | refine e_block_y rfl ?_)) | refine l_ends ?_)
    · exact s_leave1 rfl rfl (fun w hw => ⟨_, _, _, rfl, ⟨by simp, OVec.nil, rfl⟩, SSt.lone hw⟩)
  | blk b n cap xs r h1 h2 h3 h4 =>
    subst hx
    subst hnn
    refine SYieldsG.mk (s_enterM Try.func45 rfl Try.ntmps45 rfl hH hn ?_)
    repeat' (first | exact rfl | (apply kO; (first | exact ov_pure rfl | (apply kOBin; (first | exact aBin)) | (apply kOCall; (first | (apply kCallB; (first | exact aBlt | exact aLenR)))) | (apply kOLoad; (first | exact aLdF | exact aLdR)) | exact ov_fieldAddr rfl | (apply kOIdx; (first | exact aIdx)) | exact aRest | exact aNew | exact (ov_field1 (ft := 25) rfl rfl rfl rfl))) | (refine kN ?_; (first | (refine kStore ?_; (first | (refine s_setR 0 rfl rfl rfl rfl (by rw [List.length_append, ivals_length, hml j hj]; omega) ?_) | refine s_store1 _ rfl rfl gpA rfl (by rfl) ?_ | refine s_storeS _ rfl rfl gpA rfl rfl (by rfl) ?_ | refine s_storeS _ rfl rfl gpA rfl (ones_img oiA) (by rfl) ?_)) | refine s_boxS rfl rfl (fun b hb => ?_) | refine s_allocS rfl (fun b hb => ?_) | refine s_box1 rfl rfl rfl (fun b hb => ?_) | refine s_alloc1 rfl rfl (fun b hb => ?_) | refine s_buildSlice0 rfl (fun b hb => ?_) | refine s_buildSlice rfl rfl rfl rfl rfl (fun b hb => ?_) | apply s_step)) | (refine kG ?_; (first | refine s_gyes rfl rfl rfl ?_ | refine s_gno rfl rfl rfl rfl rfl ?_ | ((first | refine s_split_d rfl rfl (fun h => ?_) (fun h => ?_) | refine s_split_n rfl rfl (fun h => ?_) (fun h => ?_)) <;> (try (first | contradiction | (exfalso; omega)))) | refine s_split_nb rfl rfl (fun h => ?_) (fun h => ?_) | refine s_split rfl rfl (fun h => ?_) (fun h => ?_))) | refine l_then ?_ | (refine kC ?_; (first | (refine c_loopV (ι := Nat) (fun j => j ≤ l.length) (fun j => [(1, .int .i64 (k + j)), (5, .int .i64 (j : Int))]) (fun j => [[(b, srow (ivals (markTo l k j) ++ r) 3)]]) (fun j => l.length - j) 0 (by omega) rfl (fun _ => rfl) ⟨slook_to rfl (vint_to (by simp)), rfl, trivial⟩ (fun w hw => by rw [markTo_zero]; simpa using hw) (fun j hj => ?_)) | refine c_seq ?_ | refine c_regionN rfl ?_ | refine c_ret ?_ | (refine kCond ?_; (first | refine c_cond_t rfl ?_ | refine c_cond_f rfl ?_ | ((first | refine c_cond_d rfl (fun h => ?_) (fun h => ?_) | refine c_cond_n rfl (fun h => ?_) (fun h => ?_)) <;> (try (first | contradiction | (exfalso; omega)))) | refine c_cond_nb rfl (fun h => ?_) (fun h => ?_) | refine c_cond rfl (fun h => ?_) (fun h => ?_))) | refine c_block ?_ | refine c_skip ?_ | refine c_exit ?_ | refine c_regionQN rfl rfl (by decide +kernel) ?_)) | apply s_stepQ | (refine kQG ?_; (first | refine s_gyesQ rfl rfl rfl ?_ | refine s_gnoQ rfl rfl rfl rfl rfl ?_ | ((first | refine s_splitQ_d rfl rfl (fun h => ?_) (fun h => ?_) | refine s_splitQ_n rfl rfl (fun h => ?_) (fun h => ?_)) <;> (try (first | contradiction | (exfalso; omega)))) | refine s_splitQ_nb rfl rfl (fun h => ?_) (fun h => ?_) | refine s_splitQ rfl rfl (fun h => ?_) (fun h => ?_))) | refine lQ_then ?_ | refine lQ_ends ?_ | (refine kE ?_; (first | refine e_then_r ?_ | refine e_block_r ?_ | refine e_then_n ?_ | refine e_then_x ?_ | refine e_block_n ?_ | refine e_block_x ?_ | refine e_block_y rfl ?_)) | refine l_ends ?_)
    · refine e_round (j + 1) (by omega) ⟨slook_to rfl (vint_to (by omega)), rfl, (by repeat' first | exact trivial | refine ⟨rfl, ?_⟩)⟩ (fun w hw => ?_) (by omega)
      rw [show 0 + (j : Int).toNat * 1 = j by omega, set_ivals _ _ (by rw [hml j hj]; omega), markTo_set _ _ _ (by omega)] at hw
      exact hw
    · obtain rfl : j = l.length := by omega
      rw [markTo_all]
      refine s_leave1 rfl rfl (fun w hw => ⟨_, _, _, rfl, ⟨rfl, ?_, rfl⟩, SSt.lone hw⟩)
      have := OVec.blk (k := 1) (T := 3) b l.length cap (ivals (iota k l.length)) r (by rw [ivals_length, hil]; omega) (by simp [ivals_length, hil] at h2 ⊢; omega) h3 h4
      rw [OInts, hil]; exact this
theorem c_heldIntS (v : Value) (l : List Int) (k : Int) (w : World) (hv : RInts w v l) (hk : 0 ≤ k ∧ k + l.length ≤ 4611686018427387904) : SYields Try.prog 68 #[v, .int .i64 k] (.int .i64 (heldI l k)) w := by
  have hl := hv.len
  (first | apply SYields.mk | apply SYieldsF.mk | skip); refine s_enter Try.func68 rfl Try.ntmps68 rfl ?_
  repeat' (first | exact rfl | (apply kO; (first | exact ov_pure rfl | (apply kOBin; (first | exact aBin)) | (apply kOCall; (first | (apply kCallB; (first | exact aBlt | exact aLenR)))) | (apply kOLoad; (first | exact aLdF | exact aLdR)) | exact ov_fieldAddr rfl | (apply kOIdx; (first | exact aIdx)) | exact aRest | exact aNew | exact (ov_field1 (ft := 25) rfl rfl rfl rfl))) | (refine kN ?_; (first | (refine kStore ?_; (first | refine s_store1 _ rfl rfl gpA rfl (by rfl) ?_ | refine s_storeS _ rfl rfl gpA rfl rfl (by rfl) ?_ | refine s_storeS _ rfl rfl gpA rfl (ones_img oiA) (by rfl) ?_)) | refine s_boxS rfl rfl (fun b hb => ?_) | refine s_allocS rfl (fun b hb => ?_) | refine s_box1 rfl rfl rfl (fun b hb => ?_) | refine s_alloc1 rfl rfl (fun b hb => ?_) | refine s_buildSlice0 rfl (fun b hb => ?_) | refine s_buildSlice rfl rfl rfl rfl rfl (fun b hb => ?_) | apply s_step)) | (refine kG ?_; (first | refine s_gyes rfl rfl rfl ?_ | refine s_gno rfl rfl rfl rfl rfl ?_ | ((first | refine s_split_d rfl rfl (fun h => ?_) (fun h => ?_) | refine s_split_n rfl rfl (fun h => ?_) (fun h => ?_)) <;> (try (first | contradiction | (exfalso; omega)))) | refine s_split_nb rfl rfl (fun h => ?_) (fun h => ?_) | refine s_split rfl rfl (fun h => ?_) (fun h => ?_))) | refine l_then ?_ | (refine kC ?_; (first | (refine c_loopV (ι := Nat) (fun j => j ≤ l.length ∧ heldTo l k j) (fun j => [(1, .int .i64 (k + j)), (5, .int .i64 (j : Int))]) (fun _ => []) (fun j => l.length - j) 0 ⟨by omega, fun i hi => by omega⟩ rfl (fun _ => rfl) ⟨slook_to rfl (vint_to (by simp)), rfl, trivial⟩ (fun w hw => hw) (fun j hj => ?_)) | refine c_seq ?_ | refine c_regionN rfl ?_ | refine c_ret ?_ | (refine kCond ?_; (first | refine c_cond_t rfl ?_ | refine c_cond_f rfl ?_ | ((first | refine c_cond_d rfl (fun h => ?_) (fun h => ?_) | refine c_cond_n rfl (fun h => ?_) (fun h => ?_)) <;> (try (first | contradiction | (exfalso; omega)))) | refine c_cond_nb rfl (fun h => ?_) (fun h => ?_) | refine c_cond rfl (fun h => ?_) (fun h => ?_))) | refine c_block ?_ | refine c_skip ?_ | refine c_exit ?_ | refine c_regionQN rfl rfl (by decide +kernel) ?_)) | apply s_stepQ | (refine kQG ?_; (first | refine s_gyesQ rfl rfl rfl ?_ | refine s_gnoQ rfl rfl rfl rfl rfl ?_ | ((first | refine s_splitQ_d rfl rfl (fun h => ?_) (fun h => ?_) | refine s_splitQ_n rfl rfl (fun h => ?_) (fun h => ?_)) <;> (try (first | contradiction | (exfalso; omega)))) | refine s_splitQ_nb rfl rfl (fun h => ?_) (fun h => ?_) | refine s_splitQ rfl rfl (fun h => ?_) (fun h => ?_))) | refine lQ_then ?_ | refine lQ_ends ?_ | (refine kE ?_; (first | refine e_then_r ?_ | refine e_block_r ?_ | refine e_then_n ?_ | refine e_then_x ?_ | refine e_block_n ?_ | refine e_block_x ?_ | refine e_block_y rfl ?_)) | refine l_ends ?_)
  all_goals try simp only [Int.toNat_natCast] at *
  · exact s_leave1 rfl rfl (fun w hw => ⟨ret_int (by unfold heldI; rw [if_neg (heldTo_ne (j := j) (by omega) (by omega))]), hw.below⟩)
  · exact e_round (j + 1) ⟨by omega, fun i hi => by
      by_cases e : i = j
      · subst e; omega
      · exact hj.2 i (by omega)⟩ ⟨slook_to rfl (vint_to (by omega)), rfl, (by repeat' first | exact trivial | refine ⟨rfl, ?_⟩)⟩ (fun w hw => hw) (by omega)
  · obtain rfl : j = l.length := by omega
    exact s_leave1 rfl rfl (fun w hw => ⟨ret_int (by unfold heldI; rw [if_pos (heldTo_all hj.2 (by omega))]), hw.below⟩)
theorem c_markImage (i : DImg) (d : Value) (H : SPiece) (k : Int) (w : World) (hv : OInts 3 d i.data H) (hH : Holds w H) (hn : H.keys.Nodup) (hk : 0 ≤ k ∧ k + i.data.length ≤ 4611686018427387904) :
    SYieldsG Try.prog 43 #[vImg i d, .int .i64 k] H (fun u H' F => u = .int .i64 (k + i.data.length) ∧ OInts 3 d (iota k i.data.length) H' ∧ F = []) w := by
  refine SYieldsG.mk (s_enterM Try.func43 rfl Try.ntmps43 rfl hH hn ?_)
  repeat' (first | exact rfl | (apply kO; (first | exact ov_pure rfl | (apply kOBin; (first | exact aBin)) | (apply kOCall; (first | (apply kCallB; (first | exact aBlt | exact aLenR)))) | (apply kOLoad; (first | exact aLdF | exact aLdR)) | exact ov_fieldAddr rfl | (apply kOIdx; (first | exact aIdx)) | exact aRest | exact aNew | exact (ov_field1 (ft := 25) rfl rfl rfl rfl))) | (refine kN ?_; (first | (refine kCall ?_; (first | (refine kWFunc ?_; (refine s_callG 1 (fun u H' F => u = .int .i64 (k + i.data.length) ∧ OInts 3 d (iota k i.data.length) H' ∧ F = []) rfl rfl (fun w hw hh hn => c_markIntS _ _ _ _ w hv hh hn hk) rfl (fun u H' F hu => ?_); obtain ⟨rfl, hu, rfl⟩ := hu)) | apply s_step)) | (refine kStore ?_; (first | refine s_store1 _ rfl rfl gpA rfl (by rfl) ?_ | refine s_storeS _ rfl rfl gpA rfl rfl (by rfl) ?_ | refine s_storeS _ rfl rfl gpA rfl (ones_img oiA) (by rfl) ?_)) | refine s_boxS rfl rfl (fun b hb => ?_) | refine s_allocS rfl (fun b hb => ?_) | refine s_box1 rfl rfl rfl (fun b hb => ?_) | refine s_alloc1 rfl rfl (fun b hb => ?_) | refine s_buildSlice0 rfl (fun b hb => ?_) | refine s_buildSlice rfl rfl rfl rfl rfl (fun b hb => ?_) | apply s_step)) | (refine kG ?_; (first | refine s_gyes rfl rfl rfl ?_ | refine s_gno rfl rfl rfl rfl rfl ?_ | ((first | refine s_split_d rfl rfl (fun h => ?_) (fun h => ?_) | refine s_split_n rfl rfl (fun h => ?_) (fun h => ?_)) <;> (try (first | contradiction | (exfalso; omega)))) | refine s_split_nb rfl rfl (fun h => ?_) (fun h => ?_) | refine s_split rfl rfl (fun h => ?_) (fun h => ?_))) | refine l_then ?_ | (refine kC ?_; (first | refine c_seq ?_ | refine c_regionN rfl ?_ | refine c_ret ?_ | (refine kCond ?_; (first | refine c_cond_t rfl ?_ | refine c_cond_f rfl ?_ | ((first | refine c_cond_d rfl (fun h => ?_) (fun h => ?_) | refine c_cond_n rfl (fun h => ?_) (fun h => ?_)) <;> (try (first | contradiction | (exfalso; omega)))) | refine c_cond_nb rfl (fun h => ?_) (fun h => ?_) | refine c_cond rfl (fun h => ?_) (fun h => ?_))) | refine c_block ?_ | refine c_skip ?_ | refine c_exit ?_ | refine c_regionQN rfl rfl (by decide +kernel) ?_)) | apply s_stepQ | (refine kQG ?_; (first | refine s_gyesQ rfl rfl rfl ?_ | refine s_gnoQ rfl rfl rfl rfl rfl ?_ | ((first | refine s_splitQ_d rfl rfl (fun h => ?_) (fun h => ?_) | refine s_splitQ_n rfl rfl (fun h => ?_) (fun h => ?_)) <;> (try (first | contradiction | (exfalso; omega)))) | refine s_splitQ_nb rfl rfl (fun h => ?_) (fun h => ?_) | refine s_splitQ rfl rfl (fun h => ?_) (fun h => ?_))) | refine lQ_then ?_ | refine lQ_ends ?_ | (refine kE ?_; (first | refine e_then_r ?_ | refine e_block_r ?_ | refine e_then_n ?_ | refine e_then_x ?_ | refine e_block_n ?_ | refine e_block_x ?_ | refine e_block_y rfl ?_)) | refine l_ends ?_)
  all_goals refine s_leave1 rfl rfl (fun w hw => ⟨_, _, _, rfl, ⟨rfl, by assumption, rfl⟩, ?_⟩)
  all_goals exact (hw.sub (L' := [_]) (by repeat' first | exact List.nil_sublist _ | exact List.Sublist.slnil | refine List.Sublist.cons_cons _ ?_ | refine List.Sublist.cons _ ?_)).lone
end Go.Proofs.Ytiainpcigdenaaa
namespace Go.Proofs.Ytiainpcigdenaaa
open Go Sx
section
variable {n : Nat} {lo : SMut} {s : World} {ops : Array Oper} {Q : Exit → Act → World → Prop} {E : SEnv} {L : SHeap} {ty : TypeId} {pos : String} {after : Array Edge} {rest : List Oper}
theorem kWFn (f : FuncId) {P : Program} {aa : Array Operand} {ts : Array TypeId} {d : Option Tmp} {g : Option (Nat × Bool)} (h : WPL P n lo s ops Q (⟨d, .call { callee := .value (.func f), args := aa, argTypes := ts }, ty, pos, after, g⟩ :: rest) E L) : WPL P n lo s ops Q (⟨d, .call { callee := .value (.func f), args := aa, argTypes := ts }, ty, pos, after, g⟩ :: rest) E L := h
end
end Go.Proofs.Ytiainpcigdenaaa
namespace Go.Proofs.Ytiainpcigdenaaa
open Go Sx
attribute [local irreducible] Exit.then Exit.inBlock bodyPost
section
variable {n : Nat} {lo : SMut} {s : World} {ops : Array Oper} {Q : Exit → Act → World → Prop} {E : SEnv} {L : SHeap} {dd : Nat} {ty : TypeId} {pos : String} {after : Array Edge} {rest : List Oper}
theorem s_markI (i : Nat) {v : Value} {l : List Int} {k : Int} {H : SPiece} {args : List Operand} {ts : Array TypeId} (ha : svals E args = some [v, .int .i64 k]) (hv : OInts 3 v l H) (hL : getL L i = some H) (hk : 0 ≤ k ∧ k + l.length ≤ 4611686018427387904) (hd : Nat.blt dd n = true)
    (c : ∀ H', OInts 3 v (iota k l.length) H' → WPL Try.prog n lo s ops Q rest ((dd, .int .i64 (k + l.length)) :: E) ([] :: setL L i H')) :
    WPL Try.prog n lo s ops Q (⟨some dd, .call { callee := .value (.func 45), args := args.toArray, argTypes := ts }, ty, pos, after, none⟩ :: rest) E L :=
  s_callG i (fun u H' F => u = .int .i64 (k + l.length) ∧ OInts 3 v (iota k l.length) H' ∧ F = []) ha hL (fun w hw hh hn => c_markIntS v l H k w hv hh hn hk) hd (fun v' H' F hu => by obtain ⟨rfl, hu, rfl⟩ := hu; exact c H' hu)
theorem s_markImg (i : Nat) {p q : Int} {v : Value} {l : List Int} {k : Int} {H : SPiece} {args : List Operand} {ts : Array TypeId} (ha : svals E args = some [.agg #[.int .i64 p, .int .i64 q, v], .int .i64 k]) (hv : OInts 3 v l H) (hL : getL L i = some H) (hk : 0 ≤ k ∧ k + l.length ≤ 4611686018427387904) (hd : Nat.blt dd n = true)
    (c : ∀ H', OInts 3 v (iota k l.length) H' → WPL Try.prog n lo s ops Q rest ((dd, .int .i64 (k + l.length)) :: E) ([] :: setL L i H')) :
    WPL Try.prog n lo s ops Q (⟨some dd, .call { callee := .value (.func 43), args := args.toArray, argTypes := ts }, ty, pos, after, none⟩ :: rest) E L :=
  s_callG i (fun u H' F => u = .int .i64 (k + l.length) ∧ OInts 3 v (iota k l.length) H' ∧ F = []) ha hL (fun w hw hh hn => c_markImage ⟨p, q, l⟩ v H k w hv hh hn hk) hd (fun v' H' F hu => by obtain ⟨rfl, hu, rfl⟩ := hu; exact c H' hu)
end
end Go.Proofs.Ytiainpcigdenaaa
namespace Go.Proofs.Ytiainpcigdenaaa
open Go Sx
attribute [local irreducible] Exit.then Exit.inBlock bodyPost
theorem c_szSurface (s : DSurf) (d : Value) (left : Int) (w : World) (hd : RInts w d s.buf.data) (hl : 0 ≤ left ∧ left ≤ 1048576) : SYields Try.prog 51 #[vSurf s d, .int .i64 left] (.int .i64 (szI s.buf.data.length left)) w := by
  have hk := hd.len
  (first | apply SYields.mk | apply SYieldsF.mk | skip); refine s_enter Try.func51 rfl Try.ntmps51 rfl ?_
  repeat' (first | exact rfl | (apply kO; (first | exact ov_pure rfl | (apply kOBin; (first | exact aBin)) | (apply kOCall; (first | (apply kCallF; (first | exact (ov_call rfl (fun w hw => c_szImage s.buf _ _ w (riA hw) (by omega))))) | (apply kCallB; (first | exact aBlt | exact aLenR)))) | (apply kOLoad; (first | exact aLdF | exact aLdR)) | exact ov_fieldAddr rfl | (apply kOIdx; (first | exact aIdx)) | exact aRest | exact aNew | exact (ov_field1 (ft := 25) rfl rfl rfl rfl))) | (refine kN ?_; (first | (refine kStore ?_; (first | refine s_store1 _ rfl rfl gpA rfl (by rfl) ?_ | refine s_storeS _ rfl rfl gpA rfl rfl (by rfl) ?_ | refine s_storeS _ rfl rfl gpA rfl (ones_img oiA) (by rfl) ?_)) | refine s_boxS rfl rfl (fun b hb => ?_) | refine s_allocS rfl (fun b hb => ?_) | refine s_box1 rfl rfl rfl (fun b hb => ?_) | refine s_alloc1 rfl rfl (fun b hb => ?_) | refine s_buildSlice0 rfl (fun b hb => ?_) | refine s_buildSlice rfl rfl rfl rfl rfl (fun b hb => ?_) | apply s_step)) | (refine kG ?_; (first | refine s_gyes rfl rfl rfl ?_ | refine s_gno rfl rfl rfl rfl rfl ?_ | ((first | refine s_split_d rfl rfl (fun h => ?_) (fun h => ?_) | refine s_split_n rfl rfl (fun h => ?_) (fun h => ?_)) <;> (try (first | contradiction | (exfalso; omega)))) | refine s_split_nb rfl rfl (fun h => ?_) (fun h => ?_) | refine s_split rfl rfl (fun h => ?_) (fun h => ?_))) | refine l_then ?_ | (refine kC ?_; (first | refine c_seq ?_ | refine c_regionN rfl ?_ | refine c_ret ?_ | (refine kCond ?_; (first | refine c_cond_t rfl ?_ | refine c_cond_f rfl ?_ | ((first | refine c_cond_d rfl (fun h => ?_) (fun h => ?_) | refine c_cond_n rfl (fun h => ?_) (fun h => ?_)) <;> (try (first | contradiction | (exfalso; omega)))) | refine c_cond_nb rfl (fun h => ?_) (fun h => ?_) | refine c_cond rfl (fun h => ?_) (fun h => ?_))) | refine c_block ?_ | refine c_skip ?_ | refine c_exit ?_ | refine c_regionQN rfl rfl (by decide +kernel) ?_)) | apply s_stepQ | (refine kQG ?_; (first | refine s_gyesQ rfl rfl rfl ?_ | refine s_gnoQ rfl rfl rfl rfl rfl ?_ | ((first | refine s_splitQ_d rfl rfl (fun h => ?_) (fun h => ?_) | refine s_splitQ_n rfl rfl (fun h => ?_) (fun h => ?_)) <;> (try (first | contradiction | (exfalso; omega)))) | refine s_splitQ_nb rfl rfl (fun h => ?_) (fun h => ?_) | refine s_splitQ rfl rfl (fun h => ?_) (fun h => ?_))) | refine lQ_then ?_ | refine lQ_ends ?_ | (refine kE ?_; (first | refine e_then_r ?_ | refine e_block_r ?_ | refine e_then_n ?_ | refine e_then_x ?_ | refine e_block_n ?_ | refine e_block_x ?_ | refine e_block_y rfl ?_)) | refine l_ends ?_)
  all_goals refine s_leave1 rfl rfl (fun w hw => ⟨?_, hw.below⟩)
  all_goals (refine ret_int ?_; unfold szI at *; (repeat' split at *) <;> omega)
theorem c_toSurface (s : DSurf) (d : Value) (w : World) (hd : RInts w d s.buf.data) (hl : s.buf.data.length ≤ 1048576) : SYieldsF Try.prog 56 #[vSurf s d] (fun u H => OSurf u s H) w := by
  have hd' := hd.form
  obtain ⟨_, _, rfl⟩ := hd'
  (first | apply SYields.mk | apply SYieldsF.mk | skip); refine s_enter Try.func56 rfl Try.ntmps56 rfl ?_
  repeat' (first | exact rfl | (apply kO; (first | exact ov_pure rfl | (apply kOBin; (first | exact aBin)) | (apply kOCall; (first | (apply kCallB; (first | exact aBlt | exact aLenR)))) | (apply kOLoad; (first | exact aLdF | exact aLdR)) | exact ov_fieldAddr rfl | (apply kOIdx; (first | exact aIdx)) | exact aRest | exact aNew | exact (ov_field1 (ft := 25) rfl rfl rfl rfl))) | (refine kN ?_; (first | (refine kCall ?_; (first | (refine kWFunc ?_; (refine s_callF (fun u H => OImg u s.buf H) rfl (fun w hw => c_toImage s.buf _ w (riA hw) hl) rfl (fun u H hu => ?_); obtain ⟨d', rfl, hu⟩ := hu; obtain ⟨_, _, rfl⟩ := hu.form)) | apply s_step)) | (refine kStore ?_; (first | refine s_store1 _ rfl rfl gpA rfl (by rfl) ?_ | refine s_storeS _ rfl rfl gpA rfl rfl (by rfl) ?_ | refine s_storeS _ rfl rfl gpA rfl (ones_img oiA) (by rfl) ?_)) | refine s_boxS rfl rfl (fun b hb => ?_) | refine s_allocS rfl (fun b hb => ?_) | refine s_box1 rfl rfl rfl (fun b hb => ?_) | refine s_alloc1 rfl rfl (fun b hb => ?_) | refine s_buildSlice0 rfl (fun b hb => ?_) | refine s_buildSlice rfl rfl rfl rfl rfl (fun b hb => ?_) | apply s_step)) | (refine kG ?_; (first | refine s_gyes rfl rfl rfl ?_ | refine s_gno rfl rfl rfl rfl rfl ?_ | ((first | refine s_split_d rfl rfl (fun h => ?_) (fun h => ?_) | refine s_split_n rfl rfl (fun h => ?_) (fun h => ?_)) <;> (try (first | contradiction | (exfalso; omega)))) | refine s_split_nb rfl rfl (fun h => ?_) (fun h => ?_) | refine s_split rfl rfl (fun h => ?_) (fun h => ?_))) | refine l_then ?_ | (refine kC ?_; (first | refine c_seq ?_ | refine c_regionN rfl ?_ | refine c_ret ?_ | (refine kCond ?_; (first | refine c_cond_t rfl ?_ | refine c_cond_f rfl ?_ | ((first | refine c_cond_d rfl (fun h => ?_) (fun h => ?_) | refine c_cond_n rfl (fun h => ?_) (fun h => ?_)) <;> (try (first | contradiction | (exfalso; omega)))) | refine c_cond_nb rfl (fun h => ?_) (fun h => ?_) | refine c_cond rfl (fun h => ?_) (fun h => ?_))) | refine c_block ?_ | refine c_skip ?_ | refine c_exit ?_ | refine c_regionQN rfl rfl (by decide +kernel) ?_)) | apply s_stepQ | (refine kQG ?_; (first | refine s_gyesQ rfl rfl rfl ?_ | refine s_gnoQ rfl rfl rfl rfl rfl ?_ | ((first | refine s_splitQ_d rfl rfl (fun h => ?_) (fun h => ?_) | refine s_splitQ_n rfl rfl (fun h => ?_) (fun h => ?_)) <;> (try (first | contradiction | (exfalso; omega)))) | refine s_splitQ_nb rfl rfl (fun h => ?_) (fun h => ?_) | refine s_splitQ rfl rfl (fun h => ?_) (fun h => ?_))) | refine lQ_then ?_ | refine lQ_ends ?_ | (refine kE ?_; (first | refine e_then_r ?_ | refine e_block_r ?_ | refine e_then_n ?_ | refine e_then_x ?_ | refine e_block_n ?_ | refine e_block_x ?_ | refine e_block_y rfl ?_)) | refine l_ends ?_)
  all_goals (refine kE ?_; refine s_leaveSF rfl rfl rfl fwA (fun w hw => ?_))
  exact ⟨_, _, rfl, ⟨_, rfl, by assumption⟩, hw.toFresh (i := 0) rfl⟩
theorem c_eqSurface (a c : DSurf) (d e : Value) (w : World) (hd : RInts w d a.buf.data) (he : RInts w e c.buf.data) : SYields Try.prog 66 #[vSurf a d, vSurf c e] (.bool (decide (a = c))) w := by
  (first | apply SYields.mk | apply SYieldsF.mk | skip); refine s_enter Try.func66 rfl Try.ntmps66 rfl ?_
  repeat' (first | exact rfl | (apply kO; (first | exact ov_pure rfl | (apply kOBin; (first | exact aBin)) | (apply kOCall; (first | (apply kCallF; (first | exact (ov_call rfl (fun w hw => c_eqImage a.buf c.buf _ _ w (riA hw) (riA hw))))) | (apply kCallB; (first | exact aBlt | exact aLenR)))) | (apply kOLoad; (first | exact aLdF | exact aLdR)) | exact ov_fieldAddr rfl | (apply kOIdx; (first | exact aIdx)) | exact aRest | exact aNew | exact (ov_field1 (ft := 25) rfl rfl rfl rfl))) | (refine kN ?_; (first | (refine kStore ?_; (first | refine s_store1 _ rfl rfl gpA rfl (by rfl) ?_ | refine s_storeS _ rfl rfl gpA rfl rfl (by rfl) ?_ | refine s_storeS _ rfl rfl gpA rfl (ones_img oiA) (by rfl) ?_)) | refine s_boxS rfl rfl (fun b hb => ?_) | refine s_allocS rfl (fun b hb => ?_) | refine s_box1 rfl rfl rfl (fun b hb => ?_) | refine s_alloc1 rfl rfl (fun b hb => ?_) | refine s_buildSlice0 rfl (fun b hb => ?_) | refine s_buildSlice rfl rfl rfl rfl rfl (fun b hb => ?_) | apply s_step)) | (refine kG ?_; (first | refine s_gyes rfl rfl rfl ?_ | refine s_gno rfl rfl rfl rfl rfl ?_ | ((first | refine s_split_d rfl rfl (fun h => ?_) (fun h => ?_) | refine s_split_n rfl rfl (fun h => ?_) (fun h => ?_)) <;> (try (first | contradiction | (exfalso; omega)))) | refine s_split_nb rfl rfl (fun h => ?_) (fun h => ?_) | refine s_split rfl rfl (fun h => ?_) (fun h => ?_))) | refine l_then ?_ | (refine kC ?_; (first | refine c_seq ?_ | refine c_regionN rfl ?_ | refine c_ret ?_ | (refine kCond ?_; (first | refine c_cond_t rfl ?_ | refine c_cond_f rfl ?_ | ((first | refine c_cond_d rfl (fun h => ?_) (fun h => ?_) | refine c_cond_n rfl (fun h => ?_) (fun h => ?_)) <;> (try (first | contradiction | (exfalso; omega)))) | refine c_cond_nb rfl (fun h => ?_) (fun h => ?_) | refine c_cond rfl (fun h => ?_) (fun h => ?_))) | refine c_block ?_ | refine c_skip ?_ | refine c_exit ?_ | refine c_regionQN rfl rfl (by decide +kernel) ?_)) | apply s_stepQ | (refine kQG ?_; (first | refine s_gyesQ rfl rfl rfl ?_ | refine s_gnoQ rfl rfl rfl rfl rfl ?_ | ((first | refine s_splitQ_d rfl rfl (fun h => ?_) (fun h => ?_) | refine s_splitQ_n rfl rfl (fun h => ?_) (fun h => ?_)) <;> (try (first | contradiction | (exfalso; omega)))) | refine s_splitQ_nb rfl rfl (fun h => ?_) (fun h => ?_) | refine s_splitQ rfl rfl (fun h => ?_) (fun h => ?_))) | refine lQ_then ?_ | refine lQ_ends ?_ | (refine kE ?_; (first | refine e_then_r ?_ | refine e_block_r ?_ | refine e_then_n ?_ | refine e_then_x ?_ | refine e_block_n ?_ | refine e_block_x ?_ | refine e_block_y rfl ?_)) | refine l_ends ?_)
  all_goals refine s_leave1 rfl rfl (fun w hw => ⟨?_, hw.below⟩)
  all_goals first | exact ret_false (fun e => by subst e; first | contradiction | (simp at *; done)) | exact ret_true (DSurf.eq (by omega) (by omega) (by omega) (by omega) (by omega) (by omega) (by omega) (by simp_all) (by assumption))
theorem c_szSurfaceS (v : Value) (l : List DSurf) (left : Int) (w : World) (hv : RS eSurf w v l) (hl : 0 ≤ left ∧ left ≤ 1048576) : SYields Try.prog 28 #[v, .int .i64 left] (.int .i64 (szI (surfsLen l) left)) w := by
  obtain ⟨ds, hv⟩ := hv
  have hk := hv.row.len
  have hm := fun j => sumTo_mono (fun i => (l.getD i default).buf.data.length) (i := j) (n := l.length)
  have hs := fun j => (show sumTo (fun i => (l.getD i default).buf.data.length) (j + 1) = sumTo (fun i => (l.getD i default).buf.data.length) j + (l.getD j default).buf.data.length from rfl)
  (first | apply SYields.mk | apply SYieldsF.mk | skip); refine s_enter Try.func28 rfl Try.ntmps28 rfl ?_
  repeat' (first | exact rfl | (apply kO; (first | exact ov_pure rfl | (apply kOBin; (first | exact aBin)) | (apply kOCall; (first | (apply kCallF; (first | exact (ov_call rfl (fun w hw => c_szSurface _ _ _ w (RInts.keep (hv.rd _ (by omega)) (hw.cells rfl)) (by omega))))) | (apply kCallB; (first | exact aBlt | exact aLenR)))) | (apply kOLoad; (first | exact aLdF | exact aLdR)) | exact ov_fieldAddr rfl | (apply kOIdx; (first | exact aIdx)) | exact aRest | exact aNew | exact (ov_field1 (ft := 25) rfl rfl rfl rfl))) | (refine kN ?_; (first | (refine kStore ?_; (first | refine s_store1 _ rfl rfl gpA rfl (by rfl) ?_ | refine s_storeS _ rfl rfl gpA rfl rfl (by rfl) ?_ | refine s_storeS _ rfl rfl gpA rfl (ones_img oiA) (by rfl) ?_)) | refine s_boxS rfl rfl (fun b hb => ?_) | refine s_allocS rfl (fun b hb => ?_) | refine s_box1 rfl rfl rfl (fun b hb => ?_) | refine s_alloc1 rfl rfl (fun b hb => ?_) | refine s_buildSlice0 rfl (fun b hb => ?_) | refine s_buildSlice rfl rfl rfl rfl rfl (fun b hb => ?_) | apply s_step)) | (refine kG ?_; (first | refine s_gyes rfl rfl rfl ?_ | refine s_gno rfl rfl rfl rfl rfl ?_ | ((first | refine s_split_d rfl rfl (fun h => ?_) (fun h => ?_) | refine s_split_n rfl rfl (fun h => ?_) (fun h => ?_)) <;> (try (first | contradiction | (exfalso; omega)))) | refine s_split_nb rfl rfl (fun h => ?_) (fun h => ?_) | refine s_split rfl rfl (fun h => ?_) (fun h => ?_))) | refine l_then ?_ | (refine kC ?_; (first | (refine c_loopV (ι := Nat) (fun j => j ≤ l.length ∧ 0 ≤ left - (l.length + sumTo (fun i => (l.getD i default).buf.data.length) j : Nat)) (fun j => [(1, .int .i64 (left - (l.length + sumTo (fun i => (l.getD i default).buf.data.length) j : Nat))), (5, .int .i64 (j : Int))]) (fun _ => []) (fun j => l.length - j) 0 ⟨by omega, by simp [sumTo]; omega⟩ rfl (fun _ => rfl) ⟨slook_to rfl (vint_to (by simp [sumTo])), rfl, trivial⟩ (fun w hw => hw) (fun j hj => ?_)) | refine c_seq ?_ | refine c_regionN rfl ?_ | refine c_ret ?_ | (refine kCond ?_; (first | refine c_cond_t rfl ?_ | refine c_cond_f rfl ?_ | ((first | refine c_cond_d rfl (fun h => ?_) (fun h => ?_) | refine c_cond_n rfl (fun h => ?_) (fun h => ?_)) <;> (try (first | contradiction | (exfalso; omega)))) | refine c_cond_nb rfl (fun h => ?_) (fun h => ?_) | refine c_cond rfl (fun h => ?_) (fun h => ?_))) | refine c_block ?_ | refine c_skip ?_ | refine c_exit ?_ | refine c_regionQN rfl rfl (by decide +kernel) ?_)) | apply s_stepQ | (refine kQG ?_; (first | refine s_gyesQ rfl rfl rfl ?_ | refine s_gnoQ rfl rfl rfl rfl rfl ?_ | ((first | refine s_splitQ_d rfl rfl (fun h => ?_) (fun h => ?_) | refine s_splitQ_n rfl rfl (fun h => ?_) (fun h => ?_)) <;> (try (first | contradiction | (exfalso; omega)))) | refine s_splitQ_nb rfl rfl (fun h => ?_) (fun h => ?_) | refine s_splitQ rfl rfl (fun h => ?_) (fun h => ?_))) | refine lQ_then ?_ | refine lQ_ends ?_ | (refine kE ?_; (first | refine e_then_r ?_ | refine e_block_r ?_ | refine e_then_n ?_ | refine e_then_x ?_ | refine e_block_n ?_ | refine e_block_x ?_ | refine e_block_y rfl ?_)) | refine l_ends ?_)
  all_goals try simp only [Int.toNat_natCast, eSurf_dflt] at *
  · exact s_leave1 rfl rfl (fun w hw => ⟨ret_int (by unfold szI surfsLen; rw [if_pos (by omega)]), hw.below⟩)
  · have h1 := hs j
    have h2 := hm (j + 1) (by omega)
    exact s_leave1 rfl rfl (fun w hw => ⟨ret_int (by unfold szI at *; unfold surfsLen; rw [if_pos (by split at h <;> omega)]), hw.below⟩)
  · have h1 := hs j
    have h2 := hm (j + 1) (by omega)
    have h3 : szI (l.getD j default).buf.data.length (left - (l.length + sumTo (fun i => (l.getD i default).buf.data.length) j : Nat)) = left - (l.length + sumTo (fun i => (l.getD i default).buf.data.length) (j + 1) : Nat) := by
      unfold szI at *; split at h
      · omega
      · rw [if_neg (by assumption)]; omega
    exact e_round (j + 1) ⟨by omega, by rw [h3] at h; omega⟩ ⟨slook_to rfl (vint_to h3), rfl, (by repeat' first | exact trivial | refine ⟨rfl, ?_⟩)⟩ (fun w hw => hw) (by omega)
  · obtain rfl : j = l.length := by omega
    exact s_leave1 rfl rfl (fun w hw => ⟨ret_int (by unfold szI surfsLen; rw [if_neg (by omega)]), hw.below⟩)
theorem c_toSurfaceS (v : Value) (l : List DSurf) (w : World) (hv : RS eSurf w v l) (hl : surfsLen l ≤ 1048576) : SYieldsF Try.prog 35 #[v] (fun u H => OElems eSurf 68 u l H) w := by
  obtain ⟨ds, hv⟩ := hv
  have hk := hv.row.len
  have hln : l.length ≤ surfsLen l := by unfold surfsLen; omega
  have hdn : ∀ i, i < l.length → (l.getD i default).buf.data.length ≤ 1048576 := fun i hi => by have := le_sumTo (fun i => (l.getD i default).buf.data.length) hi; unfold surfsLen at hl; omega
  (first | apply SYields.mk | apply SYieldsF.mk | skip); refine s_enter Try.func35 rfl Try.ntmps35 rfl ?_
  repeat' (first | exact rfl | (apply kO; (first | exact ov_pure rfl | (apply kOBin; (first | exact aBin)) | (apply kOCall; (first | (apply kCallB; (first | exact aBlt | exact aLenR)))) | (apply kOLoad; (first | exact aLdF | exact aLdR)) | exact ov_fieldAddr rfl | (apply kOIdx; (first | exact aIdx)) | exact aRest | exact aNew | exact (ov_field1 (ft := 25) rfl rfl rfl rfl))) | (refine kN ?_; (first | (refine kCall ?_; (first | (refine kWFunc ?_; (refine s_callF (fun u H => OSurf u (l.getD j.1 default) H) rfl (fun w hw => c_toSurface _ _ w (RInts.keep (hv.rd _ (by omega)) (hw.cells rfl)) (hdn _ (by omega))) rfl (fun u H hu => ?_); obtain ⟨d', rfl, hu⟩ := hu; obtain ⟨ua, uc, rfl⟩ := hu.form)) | apply s_step)) | (refine kStore ?_; (first | (refine s_setRS 1 rfl rfl rfl rfl rfl (by rw [efill_length _ _ _ _ rfl _ _ (by omega)]; simp only [eSurf, List.length_cons, List.length_nil]; omega) ?_) | refine s_store1 _ rfl rfl gpA rfl (by rfl) ?_ | refine s_storeS _ rfl rfl gpA rfl rfl (by rfl) ?_ | refine s_storeS _ rfl rfl gpA rfl (ones_img oiA) (by rfl) ?_)) | refine s_boxS rfl rfl (fun b hb => ?_) | refine s_allocS rfl (fun b hb => ?_) | refine s_box1 rfl rfl rfl (fun b hb => ?_) | refine s_alloc1 rfl rfl (fun b hb => ?_) | (refine kWMake ?_; (refine s_makeS rfl rfl rfl (by decide) ⟨by omega, by omega, by omega⟩ (by omega) rfl (fun b hb => ?_))) | refine s_buildSlice0 rfl (fun b hb => ?_) | refine s_buildSlice rfl rfl rfl rfl rfl (fun b hb => ?_) | apply s_step)) | (refine kG ?_; (first | refine s_gyes rfl rfl rfl ?_ | refine s_gno rfl rfl rfl rfl rfl ?_ | ((first | refine s_split_d rfl rfl (fun h => ?_) (fun h => ?_) | refine s_split_n rfl rfl (fun h => ?_) (fun h => ?_)) <;> (try (first | contradiction | (exfalso; omega)))) | refine s_split_nb rfl rfl (fun h => ?_) (fun h => ?_) | refine s_split rfl rfl (fun h => ?_) (fun h => ?_))) | refine l_then ?_ | (refine kC ?_; (first | (refine c_loopV (ι := Nat × (Nat → Value) × (Nat → SPiece)) (fun j => j.1 ≤ l.length ∧ ∀ i, i < j.1 → eSurf.own (j.2.1 i) (l.getD i eSurf.dflt) (j.2.2 i)) (fun j => [(4, .int .i64 (j.1 : Int))]) (fun j => [[(b, srow (efill eSurf l j.2.1 [.int .i64 0, .int .i64 0, .int .i64 0, .int .i64 0, .int .i64 0, .int .i64 0, .int .i64 0, .bool false, .int .i64 0, .int .i64 0, .slice none 0 0] l.length j.1) 68)], ecat j.2.2 j.1]) (fun j => l.length - j.1) (0, fun _ => undef, fun _ => []) ⟨by omega, fun i hi => by omega⟩ rfl (fun _ => rfl) ⟨rfl, trivial⟩ (fun w hw => by rw [efill_zero]; exact SSt.lone hw) (fun j hj => ?_)) | refine c_seq ?_ | refine c_regionN rfl ?_ | refine c_ret ?_ | (refine kCond ?_; (first | refine c_cond_t rfl ?_ | refine c_cond_f rfl ?_ | ((first | refine c_cond_d rfl (fun h => ?_) (fun h => ?_) | refine c_cond_n rfl (fun h => ?_) (fun h => ?_)) <;> (try (first | contradiction | (exfalso; omega)))) | refine c_cond_nb rfl (fun h => ?_) (fun h => ?_) | refine c_cond rfl (fun h => ?_) (fun h => ?_))) | refine c_block ?_ | refine c_skip ?_ | refine c_exit ?_ | refine c_regionQN rfl rfl (by decide +kernel) ?_)) | apply s_stepQ | (refine kQG ?_; (first | refine s_gyesQ rfl rfl rfl ?_ | refine s_gnoQ rfl rfl rfl rfl rfl ?_ | ((first | refine s_splitQ_d rfl rfl (fun h => ?_) (fun h => ?_) | refine s_splitQ_n rfl rfl (fun h => ?_) (fun h => ?_)) <;> (try (first | contradiction | (exfalso; omega)))) | refine s_splitQ_nb rfl rfl (fun h => ?_) (fun h => ?_) | refine s_splitQ rfl rfl (fun h => ?_) (fun h => ?_))) | refine lQ_then ?_ | refine lQ_ends ?_ | (refine kE ?_; (first | refine e_then_r ?_ | refine e_block_r ?_ | refine e_then_n ?_ | refine e_then_x ?_ | refine e_block_n ?_ | refine e_block_x ?_ | refine e_block_y rfl ?_)) | refine l_ends ?_)
  · refine e_round (j.1 + 1, upd j.2.1 j.1 (.slice ua (l.getD j.1 default).buf.data.length uc), upd j.2.2 j.1 H) ⟨by dsimp only; omega, fun i hi => ?_⟩ ⟨rfl, (by repeat' first | exact trivial | refine ⟨rfl, ?_⟩)⟩ (fun w hw => ?_) (by dsimp only; omega)
    · dsimp only at hi ⊢
      by_cases e : i = j.1
      · subst e; rw [upd_at, upd_at]; exact hu
      · rw [upd_old _ _ e, upd_old _ _ e]; exact hj.2 i (by omega)
    · dsimp only
      have hw := SSt.regroup hw
      rw [ecat_upd, ← efill_next eSurf l j.2.1 _ _ rfl l.length j.1 (by omega) _ (fun i hi => upd_old _ _ (by omega)) (upd_at _ _ _)]
      rw [show 0 + (j.1 : Int).toNat * 11 = j.1 * eSurf.k by rw [Int.toNat_natCast, Nat.zero_add]; rfl] at hw
      exact hw
  · have he : j.1 = l.length := by omega
    rw [he, efill_all]
    refine s_leave1 rfl rfl (fun w hw => ⟨_, _, rfl, ?_, hw.whole⟩)
    exact OElems.mk b (fun i hi => hj.2 i (by omega)) (by unfold maxLen; omega)
theorem c_eqSurfaceS (u v : Value) (k l : List DSurf) (w : World) (hu : RS eSurf w u k) (hv : RS eSurf w v l) : SYields Try.prog 40 #[u, v] (.bool (decide (k = l))) w := by
  obtain ⟨ds, hu⟩ := hu
  obtain ⟨es, hv⟩ := hv
  have hk := hu.row.len
  have hl := hv.row.len
  (first | apply SYields.mk | apply SYieldsF.mk | skip); refine s_enter Try.func40 rfl Try.ntmps40 rfl ?_
  repeat' (first | exact rfl | (apply kO; (first | exact ov_pure rfl | (apply kOBin; (first | exact aBin)) | (apply kOCall; (first | (apply kCallF; (first | exact (ov_call rfl (fun w hw => c_eqSurface _ _ _ _ w (RInts.keep (hu.rd _ (by omega)) (hw.cells rfl)) (RInts.keep (hv.rd _ (by omega)) (hw.cells rfl)))))) | (apply kCallB; (first | exact aBlt | exact (ov_lenR (fun w hw => hu.row.keep (hw.cells rfl)) rfl) | exact (ov_lenR (fun w hw => hv.row.keep (hw.cells rfl)) rfl) | exact aLenR)))) | (apply kOLoad; (first | exact (ov_ldRZ (fun w hw => hu.row.keep (hw.cells rfl)) rfl rfl (by omega) rfl) | exact (ov_ldRZ (fun w hw => hv.row.keep (hw.cells rfl)) rfl rfl (by omega) rfl) | exact aLdF | exact aLdR)) | exact ov_fieldAddr rfl | (apply kOIdx; (first | exact (ov_idxR (fun w hw => hu.row.keep (hw.cells rfl)) rfl rfl (by omega)) | exact (ov_idxR (fun w hw => hv.row.keep (hw.cells rfl)) rfl rfl (by omega)) | exact aIdx)) | exact aRest | exact aNew | exact (ov_field1 (ft := 25) rfl rfl rfl rfl))) | (refine kN ?_; (first | (refine kStore ?_; (first | refine s_store1 _ rfl rfl gpA rfl (by rfl) ?_ | refine s_storeS _ rfl rfl gpA rfl rfl (by rfl) ?_ | refine s_storeS _ rfl rfl gpA rfl (ones_img oiA) (by rfl) ?_)) | refine s_boxS rfl rfl (fun b hb => ?_) | refine s_allocS rfl (fun b hb => ?_) | refine s_box1 rfl rfl rfl (fun b hb => ?_) | refine s_alloc1 rfl rfl (fun b hb => ?_) | refine s_buildSlice0 rfl (fun b hb => ?_) | refine s_buildSlice rfl rfl rfl rfl rfl (fun b hb => ?_) | apply s_step)) | (refine kG ?_; (first | refine s_gyes rfl rfl rfl ?_ | refine s_gno rfl rfl rfl rfl rfl ?_ | ((first | refine s_split_d rfl rfl (fun h => ?_) (fun h => ?_) | refine s_split_n rfl rfl (fun h => ?_) (fun h => ?_)) <;> (try (first | contradiction | (exfalso; omega)))) | refine s_split_nb rfl rfl (fun h => ?_) (fun h => ?_) | refine s_split rfl rfl (fun h => ?_) (fun h => ?_))) | refine l_then ?_ | (refine kC ?_; (first | (refine c_loopV (ι := Nat) (fun j => j ≤ k.length ∧ eqTo k l default j) (fun j => [(5, .int .i64 (j : Int))]) (fun _ => []) (fun j => k.length - j) 0 ⟨by omega, eqTo_zero _ _ _⟩ rfl (fun _ => rfl) ⟨rfl, trivial⟩ (fun w hw => hw) (fun j hj => ?_)) | refine c_seq ?_ | refine c_regionN rfl ?_ | refine c_ret ?_ | (refine kCond ?_; (first | refine c_cond_t rfl ?_ | refine c_cond_f rfl ?_ | ((first | refine c_cond_d rfl (fun h => ?_) (fun h => ?_) | refine c_cond_n rfl (fun h => ?_) (fun h => ?_)) <;> (try (first | contradiction | (exfalso; omega)))) | refine c_cond_nb rfl (fun h => ?_) (fun h => ?_) | refine c_cond rfl (fun h => ?_) (fun h => ?_))) | refine c_block ?_ | refine c_skip ?_ | refine c_exit ?_ | refine c_regionQN rfl rfl (by decide +kernel) ?_)) | apply s_stepQ | (refine kQG ?_; (first | refine s_gyesQ rfl rfl rfl ?_ | refine s_gnoQ rfl rfl rfl rfl rfl ?_ | ((first | refine s_splitQ_d rfl rfl (fun h => ?_) (fun h => ?_) | refine s_splitQ_n rfl rfl (fun h => ?_) (fun h => ?_)) <;> (try (first | contradiction | (exfalso; omega)))) | refine s_splitQ_nb rfl rfl (fun h => ?_) (fun h => ?_) | refine s_splitQ rfl rfl (fun h => ?_) (fun h => ?_))) | refine lQ_then ?_ | refine lQ_ends ?_ | (refine kE ?_; (first | refine e_then_r ?_ | refine e_block_r ?_ | refine e_then_n ?_ | refine e_then_x ?_ | refine e_block_n ?_ | refine e_block_x ?_ | refine e_block_y rfl ?_)) | refine l_ends ?_)
  all_goals try simp only [Int.toNat_natCast, eSurf_dflt] at *
  · exact s_leave1 rfl rfl (fun w hw => ⟨ret_false (ne_of_len (by omega)), hw.below⟩)
  · exact s_leave1 rfl rfl (fun w hw => ⟨ret_false (fun e => by subst e; contradiction), hw.below⟩)
  · exact e_round (j + 1) ⟨by omega, eqTo_next hj.2 (by assumption)⟩ ⟨rfl, (by repeat' first | exact trivial | refine ⟨rfl, ?_⟩)⟩ (fun w hw => hw) (by omega)
  · exact s_leave1 rfl rfl (fun w hw => ⟨ret_true (list_eq_of_getD default (by omega) (fun i hi => hj.2 i (by omega))), hw.below⟩)
theorem c_szScene (s : DScene) (v : Value) (left : Int) (w : World) (hv : RS eSurf w v s.ss) (hl : 0 ≤ left ∧ left ≤ 1048576) : SYields Try.prog 6 #[vScene s v, .int .i64 left] (.int .i64 (szI (surfsLen s.ss) left)) w := by
  (first | apply SYields.mk | apply SYieldsF.mk | skip); refine s_enter Try.func6 rfl Try.ntmps6 rfl ?_
  repeat' (first | exact rfl | (apply kO; (first | exact ov_pure rfl | (apply kOBin; (first | exact aBin)) | (apply kOCall; (first | (apply kCallF; (first | exact (ov_call rfl (fun w hw => c_szSurfaceS _ _ _ w (reA hw) (by omega))))) | (apply kCallB; (first | exact aBlt | exact aLenR)))) | (apply kOLoad; (first | exact aLdF | exact aLdR)) | exact ov_fieldAddr rfl | (apply kOIdx; (first | exact aIdx)) | exact aRest | exact aNew | exact (ov_field1 (ft := 25) rfl rfl rfl rfl))) | (refine kN ?_; (first | (refine kStore ?_; (first | refine s_store1 _ rfl rfl gpA rfl (by rfl) ?_ | refine s_storeS _ rfl rfl gpA rfl rfl (by rfl) ?_ | refine s_storeS _ rfl rfl gpA rfl (ones_img oiA) (by rfl) ?_)) | refine s_boxS rfl rfl (fun b hb => ?_) | refine s_allocS rfl (fun b hb => ?_) | refine s_box1 rfl rfl rfl (fun b hb => ?_) | refine s_alloc1 rfl rfl (fun b hb => ?_) | refine s_buildSlice0 rfl (fun b hb => ?_) | refine s_buildSlice rfl rfl rfl rfl rfl (fun b hb => ?_) | apply s_step)) | (refine kG ?_; (first | refine s_gyes rfl rfl rfl ?_ | refine s_gno rfl rfl rfl rfl rfl ?_ | ((first | refine s_split_d rfl rfl (fun h => ?_) (fun h => ?_) | refine s_split_n rfl rfl (fun h => ?_) (fun h => ?_)) <;> (try (first | contradiction | (exfalso; omega)))) | refine s_split_nb rfl rfl (fun h => ?_) (fun h => ?_) | refine s_split rfl rfl (fun h => ?_) (fun h => ?_))) | refine l_then ?_ | (refine kC ?_; (first | refine c_seq ?_ | refine c_regionN rfl ?_ | refine c_ret ?_ | (refine kCond ?_; (first | refine c_cond_t rfl ?_ | refine c_cond_f rfl ?_ | ((first | refine c_cond_d rfl (fun h => ?_) (fun h => ?_) | refine c_cond_n rfl (fun h => ?_) (fun h => ?_)) <;> (try (first | contradiction | (exfalso; omega)))) | refine c_cond_nb rfl (fun h => ?_) (fun h => ?_) | refine c_cond rfl (fun h => ?_) (fun h => ?_))) | refine c_block ?_ | refine c_skip ?_ | refine c_exit ?_ | refine c_regionQN rfl rfl (by decide +kernel) ?_)) | apply s_stepQ | (refine kQG ?_; (first | refine s_gyesQ rfl rfl rfl ?_ | refine s_gnoQ rfl rfl rfl rfl rfl ?_ | ((first | refine s_splitQ_d rfl rfl (fun h => ?_) (fun h => ?_) | refine s_splitQ_n rfl rfl (fun h => ?_) (fun h => ?_)) <;> (try (first | contradiction | (exfalso; omega)))) | refine s_splitQ_nb rfl rfl (fun h => ?_) (fun h => ?_) | refine s_splitQ rfl rfl (fun h => ?_) (fun h => ?_))) | refine lQ_then ?_ | refine lQ_ends ?_ | (refine kE ?_; (first | refine e_then_r ?_ | refine e_block_r ?_ | refine e_then_n ?_ | refine e_then_x ?_ | refine e_block_n ?_ | refine e_block_x ?_ | refine e_block_y rfl ?_)) | refine l_ends ?_)
  all_goals refine s_leave1 rfl rfl (fun w hw => ⟨?_, hw.below⟩)
  all_goals (refine ret_int ?_; unfold szI at *; (repeat' split at *) <;> omega)
def OScene (u : Value) (s : DScene) (H : SPiece) : Prop := ∃ v, u = vScene s v ∧ OElems eSurf 68 v s.ss H
theorem c_toScene (s : DScene) (v : Value) (w : World) (hv : RS eSurf w v s.ss) (hl : surfsLen s.ss ≤ 1048576) : SYieldsF Try.prog 9 #[vScene s v] (fun u H => OScene u s H) w := by
  have hv' := hv.form
  obtain ⟨_, _, rfl⟩ := hv'
  (first | apply SYields.mk | apply SYieldsF.mk | skip); refine s_enter Try.func9 rfl Try.ntmps9 rfl ?_
  repeat' (first | exact rfl | (apply kO; (first | exact ov_pure rfl | (apply kOBin; (first | exact aBin)) | (apply kOCall; (first | (apply kCallB; (first | exact aBlt | exact aLenR)))) | (apply kOLoad; (first | exact aLdF | exact aLdR)) | exact ov_fieldAddr rfl | (apply kOIdx; (first | exact aIdx)) | exact aRest | exact aNew | exact (ov_field1 (ft := 25) rfl rfl rfl rfl))) | (refine kN ?_; (first | (refine kCall ?_; (first | (refine kWFunc ?_; (refine s_callF (fun u H => OElems eSurf 68 u s.ss H) rfl (fun w hw => c_toSurfaceS _ _ w (reA hw) hl) rfl (fun u H hu => ?_); have f1 := hu.form; obtain ⟨_, _, rfl⟩ := f1)) | apply s_step)) | (refine kStore ?_; (first | refine s_store1 _ rfl rfl gpA rfl (by rfl) ?_ | refine s_storeS _ rfl rfl gpA rfl rfl (by rfl) ?_ | refine s_storeS _ rfl rfl gpA rfl (ones_img oiA) (by rfl) ?_)) | refine s_boxS rfl rfl (fun b hb => ?_) | refine s_allocS rfl (fun b hb => ?_) | refine s_box1 rfl rfl rfl (fun b hb => ?_) | refine s_alloc1 rfl rfl (fun b hb => ?_) | refine s_buildSlice0 rfl (fun b hb => ?_) | refine s_buildSlice rfl rfl rfl rfl rfl (fun b hb => ?_) | apply s_step)) | (refine kG ?_; (first | refine s_gyes rfl rfl rfl ?_ | refine s_gno rfl rfl rfl rfl rfl ?_ | ((first | refine s_split_d rfl rfl (fun h => ?_) (fun h => ?_) | refine s_split_n rfl rfl (fun h => ?_) (fun h => ?_)) <;> (try (first | contradiction | (exfalso; omega)))) | refine s_split_nb rfl rfl (fun h => ?_) (fun h => ?_) | refine s_split rfl rfl (fun h => ?_) (fun h => ?_))) | refine l_then ?_ | (refine kC ?_; (first | refine c_seq ?_ | refine c_regionN rfl ?_ | refine c_ret ?_ | (refine kCond ?_; (first | refine c_cond_t rfl ?_ | refine c_cond_f rfl ?_ | ((first | refine c_cond_d rfl (fun h => ?_) (fun h => ?_) | refine c_cond_n rfl (fun h => ?_) (fun h => ?_)) <;> (try (first | contradiction | (exfalso; omega)))) | refine c_cond_nb rfl (fun h => ?_) (fun h => ?_) | refine c_cond rfl (fun h => ?_) (fun h => ?_))) | refine c_block ?_ | refine c_skip ?_ | refine c_exit ?_ | refine c_regionQN rfl rfl (by decide +kernel) ?_)) | apply s_stepQ | (refine kQG ?_; (first | refine s_gyesQ rfl rfl rfl ?_ | refine s_gnoQ rfl rfl rfl rfl rfl ?_ | ((first | refine s_splitQ_d rfl rfl (fun h => ?_) (fun h => ?_) | refine s_splitQ_n rfl rfl (fun h => ?_) (fun h => ?_)) <;> (try (first | contradiction | (exfalso; omega)))) | refine s_splitQ_nb rfl rfl (fun h => ?_) (fun h => ?_) | refine s_splitQ rfl rfl (fun h => ?_) (fun h => ?_))) | refine lQ_then ?_ | refine lQ_ends ?_ | (refine kE ?_; (first | refine e_then_r ?_ | refine e_block_r ?_ | refine e_then_n ?_ | refine e_then_x ?_ | refine e_block_n ?_ | refine e_block_x ?_ | refine e_block_y rfl ?_)) | refine l_ends ?_)
  all_goals (refine kE ?_; refine s_leaveSF rfl rfl rfl fwA (fun w hw => ?_))
  exact ⟨_, _, rfl, ⟨_, rfl, by assumption⟩, hw.toFresh (i := 0) rfl⟩
theorem c_eqScene (a c : DScene) (u v : Value) (w : World) (hu : RS eSurf w u a.ss) (hv : RS eSurf w v c.ss) : SYields Try.prog 12 #[vScene a u, vScene c v] (.bool (decide (a = c))) w := by
  (first | apply SYields.mk | apply SYieldsF.mk | skip); refine s_enter Try.func12 rfl Try.ntmps12 rfl ?_
  repeat' (first | exact rfl | (apply kO; (first | exact ov_pure rfl | (apply kOBin; (first | exact aBin)) | (apply kOCall; (first | (apply kCallF; (first | exact (ov_call rfl (fun w hw => c_eqSurfaceS _ _ _ _ w (reA hw) (reA hw))))) | (apply kCallB; (first | exact aBlt | exact aLenR)))) | (apply kOLoad; (first | exact aLdF | exact aLdR)) | exact ov_fieldAddr rfl | (apply kOIdx; (first | exact aIdx)) | exact aRest | exact aNew | exact (ov_field1 (ft := 25) rfl rfl rfl rfl))) | (refine kN ?_; (first | (refine kStore ?_; (first | refine s_store1 _ rfl rfl gpA rfl (by rfl) ?_ | refine s_storeS _ rfl rfl gpA rfl rfl (by rfl) ?_ | refine s_storeS _ rfl rfl gpA rfl (ones_img oiA) (by rfl) ?_)) | refine s_boxS rfl rfl (fun b hb => ?_) | refine s_allocS rfl (fun b hb => ?_) | refine s_box1 rfl rfl rfl (fun b hb => ?_) | refine s_alloc1 rfl rfl (fun b hb => ?_) | refine s_buildSlice0 rfl (fun b hb => ?_) | refine s_buildSlice rfl rfl rfl rfl rfl (fun b hb => ?_) | apply s_step)) | (refine kG ?_; (first | refine s_gyes rfl rfl rfl ?_ | refine s_gno rfl rfl rfl rfl rfl ?_ | ((first | refine s_split_d rfl rfl (fun h => ?_) (fun h => ?_) | refine s_split_n rfl rfl (fun h => ?_) (fun h => ?_)) <;> (try (first | contradiction | (exfalso; omega)))) | refine s_split_nb rfl rfl (fun h => ?_) (fun h => ?_) | refine s_split rfl rfl (fun h => ?_) (fun h => ?_))) | refine l_then ?_ | (refine kC ?_; (first | refine c_seq ?_ | refine c_regionN rfl ?_ | refine c_ret ?_ | (refine kCond ?_; (first | refine c_cond_t rfl ?_ | refine c_cond_f rfl ?_ | ((first | refine c_cond_d rfl (fun h => ?_) (fun h => ?_) | refine c_cond_n rfl (fun h => ?_) (fun h => ?_)) <;> (try (first | contradiction | (exfalso; omega)))) | refine c_cond_nb rfl (fun h => ?_) (fun h => ?_) | refine c_cond rfl (fun h => ?_) (fun h => ?_))) | refine c_block ?_ | refine c_skip ?_ | refine c_exit ?_ | refine c_regionQN rfl rfl (by decide +kernel) ?_)) | apply s_stepQ | (refine kQG ?_; (first | refine s_gyesQ rfl rfl rfl ?_ | refine s_gnoQ rfl rfl rfl rfl rfl ?_ | ((first | refine s_splitQ_d rfl rfl (fun h => ?_) (fun h => ?_) | refine s_splitQ_n rfl rfl (fun h => ?_) (fun h => ?_)) <;> (try (first | contradiction | (exfalso; omega)))) | refine s_splitQ_nb rfl rfl (fun h => ?_) (fun h => ?_) | refine s_splitQ rfl rfl (fun h => ?_) (fun h => ?_))) | refine lQ_then ?_ | refine lQ_ends ?_ | (refine kE ?_; (first | refine e_then_r ?_ | refine e_block_r ?_ | refine e_then_n ?_ | refine e_then_x ?_ | refine e_block_n ?_ | refine e_block_x ?_ | refine e_block_y rfl ?_)) | refine l_ends ?_)
  all_goals refine s_leave1 rfl rfl (fun w hw => ⟨?_, hw.below⟩)
  all_goals first | exact ret_false (fun e => by subst e; contradiction) | exact ret_true (DScene.eq (by omega) (by omega) (by omega) (by assumption))
end Go.Proofs.Ytiainpcigdenaaa
namespace Go.Proofs.Ytiainpcigdenaaa
open Go Sx
attribute [local irreducible] Exit.then Exit.inBlock bodyPost
theorem OVec.inv {k : Nat} {T : TypeId} {v : Value} {n : Nat} {xs : List Value} {H : SPiece} (h : OVec k T v n xs H) : (v = .slice none 0 0 ∧ n = 0 ∧ H = []) ∨ ∃ b cap r, v = .slice (some ⟨b, 0, none⟩) n cap ∧ H = [(b, srow (xs ++ r) T)] ∧ (xs ++ r).length = cap * k ∧ n ≤ cap ∧ cap ≤ maxLen := by
  cases h with
  | nil => exact .inl ⟨rfl, rfl, rfl⟩
  | blk b n cap xs r h1 h2 h3 h4 => exact .inr ⟨b, cap, r, rfl, rfl, h2, h3, h4⟩
theorem erows_get {α : Type} {e : SElem α} {l : List α} {ds : Nat → Value} : ∀ {n i j : Nat}, i < n → j < e.k → (erows e l ds n)[i * e.k + j]? = (e.cells (l.getD i e.dflt) (ds i))[j]?
  | 0, i, j, hi, _ => by omega
  | n + 1, i, j, hi, hj => by
    have hl := erows_length e l ds n
    rw [erows_succ]
    by_cases h : i < n
    · have : i * e.k + j < n * e.k := by
        have := Nat.mul_le_mul_right e.k (show i + 1 ≤ n by omega)
        rw [Nat.succ_mul] at this; omega
      rw [List.getElem?_append_left (by omega)]
      exact erows_get h hj
    · obtain rfl : i = n := by omega
      rw [List.getElem?_append_right (by omega), hl, Nat.add_sub_cancel_left]
def keepsDs (ds : Nat → Value) (n : Nat) (cells : List Value) : Prop := ∀ i, i < n → cells[i * 11 + 10]? = some (ds i)
theorem keepsDs_set {ds : Nat → Value} {n o : Nat} {v : Value} {cells : List Value} (h : keepsDs ds n cells) (ho : o % 11 ≠ 10) : keepsDs ds n (cells.set o v) := fun i hi => by
  rw [List.getElem?_set_ne (by omega)]; exact h i hi
theorem keepsDs_get {ds : Nat → Value} {n i o : Nat} {cells : List Value} (h : keepsDs ds n cells) (hi : i < n) (ho : o = i * 11 + 10) : snth cells o = some (ds i) := by rw [snth_eq, ho]; exact h i hi
def ecatF (Hs : Nat → SPiece) (i m : Nat) : SPiece := (List.range m).flatMap (fun t => Hs (i + t))
theorem ecatF_all (Hs : Nat → SPiece) (n : Nat) : ecatF Hs 0 n = ecat Hs n := by unfold ecatF ecat; simp
theorem ecatF_cut (Hs : Nat → SPiece) {i n : Nat} (h : i < n) : ecatF Hs i (n - i) = Hs i ++ ecatF Hs (i + 1) (n - (i + 1)) := by
  unfold ecatF
  rw [show n - i = (n - (i + 1)) + 1 by omega, List.range_succ_eq_map, List.flatMap_cons, List.flatMap_map, Nat.add_zero]
  exact congrArg (fun f => Hs i ++ (List.range (n - (i + 1))).flatMap f) (funext fun t => by show Hs (i + (t + 1)) = _; rw [show i + (t + 1) = i + 1 + t by omega])
section
variable {P : Program} {n : Nat} {lo : SMut} {s : World} {ops : Array Oper} {Q : Exit → Act → World → Prop} {E : SEnv} {L : SHeap} {l : List Oper}
theorem w_cut {X A B C : SPiece} {R : SHeap} (e : C = A ++ B) (k : WPL P n lo s ops Q l E (X :: A :: B :: R)) : WPL P n lo s ops Q l E (X :: C :: R) := by
  subst e
  unfold WPL at *
  exact fun a w ha hw => k a w ha (hw.perm (by simp))
theorem c_regroup {c : Code} {L' : SHeap} (h : ∀ w, SSt lo s L w → SSt lo s L' w) (k : WPC P n lo s c Q E L') : WPC P n lo s c Q E L := by
  unfold WPC at *
  exact fun a w ha hw => k a w ha (h w hw)
end
theorem _root_.Sx.SSt.gone {lo : SMut} {s w : World} {L : SHeap} (h : SSt lo s L w) : SSt lo s [[], []] w := (h.sub (L' := []) (List.nil_sublist _)).nil0.nil0
set_option maxHeartbeats 4000000 in
theorem c_markSurfaceS (v : Value) (l : List DSurf) (H : SPiece) (k : Int) (W : World) (hv : OElems eSurf 68 v l H) (hH : Holds W H) (hn : H.keys.Nodup) (hk : 0 ≤ k ∧ k ≤ 1000000000) (hl : l.length ≤ 1048576 ∧ surfsLen l ≤ 1048576) :
    SYieldsG Try.prog 42 #[v, .int .i64 k] H (fun u H' F => u = .int .i64 (k + 9 * l.length + surfsLen l)) W := by
  obtain ⟨ds, H0, Hs, G, h1, h2, rfl⟩ := hv
  have hm := fun j => sumTo_mono (fun i => (l.getD i default).buf.data.length) (i := j) (n := l.length)
  have hs := fun j => (show sumTo (fun i => (l.getD i default).buf.data.length) (j + 1) = sumTo (fun i => (l.getD i default).buf.data.length) j + (l.getD j default).buf.data.length from rfl)
  have hsl : surfsLen l = l.length + sumTo (fun i => (l.getD i default).buf.data.length) l.length := rfl
  rcases OVec.inv h1 with ⟨rfl, hn0, rfl⟩ | ⟨b0, cap, r, rfl, rfl, hcap, hnc, hcm⟩
  · refine SYieldsG.mk (s_enterM Try.func42 rfl Try.ntmps42 rfl hH hn ?_)
    repeat' (first | exact rfl | (apply kO; (first | exact ov_pure rfl | (apply kOBin; (first | exact aBin)) | (apply kOCall; (first | (apply kCallB; (first | exact aBlt | exact aLenR)))) | (apply kOLoad; (first | exact aLdF | exact aLdR)) | exact ov_fieldAddr rfl | (apply kOIdx; (first | exact aIdx)) | exact aRest | exact aNew | exact (ov_field1 (ft := 25) rfl rfl rfl rfl))) | (refine kN ?_; (first | (refine kStore ?_; (first | refine s_store1 _ rfl rfl gpA rfl (by rfl) ?_ | refine s_storeS _ rfl rfl gpA rfl rfl (by rfl) ?_ | refine s_storeS _ rfl rfl gpA rfl (ones_img oiA) (by rfl) ?_)) | refine s_boxS rfl rfl (fun b hb => ?_) | refine s_allocS rfl (fun b hb => ?_) | refine s_box1 rfl rfl rfl (fun b hb => ?_) | refine s_alloc1 rfl rfl (fun b hb => ?_) | refine s_buildSlice0 rfl (fun b hb => ?_) | refine s_buildSlice rfl rfl rfl rfl rfl (fun b hb => ?_) | apply s_step)) | (refine kG ?_; (first | refine s_gyes rfl rfl rfl ?_ | refine s_gno rfl rfl rfl rfl rfl ?_ | ((first | refine s_split_d rfl rfl (fun h => ?_) (fun h => ?_) | refine s_split_n rfl rfl (fun h => ?_) (fun h => ?_)) <;> (try (first | contradiction | (exfalso; omega)))) | refine s_split_nb rfl rfl (fun h => ?_) (fun h => ?_) | refine s_split rfl rfl (fun h => ?_) (fun h => ?_))) | refine l_then ?_ | (refine kC ?_; (first | (refine c_loopV (ι := Nat) (fun j => j = 0) (fun j => [(5, .int .i64 (j : Int)), (1, .int .i64 k)]) (fun j => [_]) (fun j => 0) 0 rfl rfl (fun _ => rfl) ⟨rfl, rfl, trivial⟩ (fun w hw => hw) (fun j hj => ?_)) | refine c_seq ?_ | refine c_regionN rfl ?_ | refine c_ret ?_ | (refine kCond ?_; (first | refine c_cond_t rfl ?_ | refine c_cond_f rfl ?_ | ((first | refine c_cond_d rfl (fun h => ?_) (fun h => ?_) | refine c_cond_n rfl (fun h => ?_) (fun h => ?_)) <;> (try (first | contradiction | (exfalso; omega)))) | refine c_cond_nb rfl (fun h => ?_) (fun h => ?_) | refine c_cond rfl (fun h => ?_) (fun h => ?_))) | refine c_block ?_ | refine c_skip ?_ | refine c_exit ?_ | refine c_regionQN rfl rfl (by decide +kernel) ?_)) | apply s_stepQ | (refine kQG ?_; (first | refine s_gyesQ rfl rfl rfl ?_ | refine s_gnoQ rfl rfl rfl rfl rfl ?_ | ((first | refine s_splitQ_d rfl rfl (fun h => ?_) (fun h => ?_) | refine s_splitQ_n rfl rfl (fun h => ?_) (fun h => ?_)) <;> (try (first | contradiction | (exfalso; omega)))) | refine s_splitQ_nb rfl rfl (fun h => ?_) (fun h => ?_) | refine s_splitQ rfl rfl (fun h => ?_) (fun h => ?_))) | refine lQ_then ?_ | refine lQ_ends ?_ | (refine kE ?_; (first | refine e_then_r ?_ | refine e_block_r ?_ | refine e_then_n ?_ | refine e_then_x ?_ | refine e_block_n ?_ | refine e_block_x ?_ | refine e_block_y rfl ?_)) | refine l_ends ?_)
    all_goals
      exact s_leave1 rfl rfl (fun w hw => ⟨_, [], [], rfl, by rw [hsl, show l.length = 0 from by assumption]; simp [sumTo], hw.gone⟩)
  · have hkeep : keepsDs ds l.length (erows eSurf l ds l.length ++ r) := fun i hi => by
      have hlen := erows_length eSurf l ds l.length
      rw [List.getElem?_append_left (by rw [hlen]; show i * 11 + 10 < l.length * 11; omega)]
      exact erows_get (e := eSurf) (j := 10) hi (by decide)
    refine SYieldsG.mk (s_enterM Try.func42 rfl Try.ntmps42 rfl hH hn ?_)
    refine c_regroup (L' := [[(b0, srow (erows eSurf l ds l.length ++ r) 68)], ecatF Hs 0 (l.length - 0), G]) (fun w hw => hw.perm (by rw [Nat.sub_zero, ecatF_all]; simp)) ?_
    repeat' (first | exact rfl | (apply kO; (first | exact ov_pure rfl | (apply kOBin; (first | exact aBin | exact (ov_add rfl rfl (by have := hm j.1; omega)))) | (apply kOCall; (first | (apply kCallB; (first | exact aBlt | exact aLenR)))) | (apply kOLoad; (first | exact (ov_load rfl rfl (getL_flat (i := 0) rfl (List.mem_singleton.2 rfl)) (keepsDs_get (i := j.1) (by repeat' first | exact hj2 | apply keepsDs_set | omega) (by omega) (by omega))) | exact aLdF | exact aLdR)) | exact ov_fieldAddr rfl | (apply kOIdx; (first | exact (ov_indexAddr rfl rfl (by omega)) | exact aIdx)) | exact aRest | exact aNew | exact (ov_field1 (ft := 25) rfl rfl rfl rfl))) | (refine kN ?_; (first | (refine kCall ?_; (first | (refine kWFn 45 ?_; (refine w_cut (ecatF_cut Hs (i := j.1) (n := l.length) (by omega)) ?_; refine s_markI _ (l := (l.getD j.1 default).buf.data) rfl (show OInts 3 (ds j.1) (l.getD j.1 default).buf.data (Hs j.1) from h2 j.1 (by omega)) gpA (by have q1 := hm j.1 (by omega); have q2 := hm (j.1 + 1) (by omega); have q3 := hs j.1; omega) rfl (fun H' hu => ?_))) | apply s_step)) | (refine kStore ?_; (first | (refine s_setR 0 rfl rfl rfl rfl (by (try simp only [List.length_set]); omega) ?_) | refine s_store1 _ rfl rfl gpA rfl (by rfl) ?_ | refine s_storeS _ rfl rfl gpA rfl rfl (by rfl) ?_ | refine s_storeS _ rfl rfl gpA rfl (ones_img oiA) (by rfl) ?_)) | refine s_boxS rfl rfl (fun b hb => ?_) | refine s_allocS rfl (fun b hb => ?_) | refine s_box1 rfl rfl rfl (fun b hb => ?_) | refine s_alloc1 rfl rfl (fun b hb => ?_) | refine s_buildSlice0 rfl (fun b hb => ?_) | refine s_buildSlice rfl rfl rfl rfl rfl (fun b hb => ?_) | apply s_step)) | (refine kG ?_; (first | refine s_gyes rfl rfl rfl ?_ | refine s_gno rfl rfl rfl rfl rfl ?_ | ((first | refine s_split_d rfl rfl (fun h => ?_) (fun h => ?_) | refine s_split_n rfl rfl (fun h => ?_) (fun h => ?_)) <;> (try (first | contradiction | (exfalso; omega)))) | refine s_split_nb rfl rfl (fun h => ?_) (fun h => ?_) | refine s_split rfl rfl (fun h => ?_) (fun h => ?_))) | refine l_then ?_ | (refine kC ?_; (first | (refine c_loopV (ι := Nat × List Value) (fun j => j.1 ≤ l.length ∧ keepsDs ds l.length j.2 ∧ j.2.length = cap * 11) (fun j => [(5, .int .i64 (j.1 : Int)), (1, .int .i64 (k + 10 * (j.1 : Int) + (sumTo (fun i => (l.getD i default).buf.data.length) j.1 : Nat)))]) (fun j => [[(b0, srow j.2 68)], ecatF Hs j.1 (l.length - j.1), G]) (fun j => l.length - j.1) (0, _) ⟨by dsimp only; omega, hkeep, hcap⟩ rfl (fun _ => rfl) ⟨rfl, slook_to rfl (vint_to (by simp [sumTo])), trivial⟩ (fun w hw => hw) (fun j hj => ?_); obtain ⟨hj1, hj2, hj3⟩ := hj) | refine c_seq ?_ | refine c_regionN rfl ?_ | refine c_ret ?_ | (refine kCond ?_; (first | refine c_cond_t rfl ?_ | refine c_cond_f rfl ?_ | ((first | refine c_cond_d rfl (fun h => ?_) (fun h => ?_) | refine c_cond_n rfl (fun h => ?_) (fun h => ?_)) <;> (try (first | contradiction | (exfalso; omega)))) | refine c_cond_nb rfl (fun h => ?_) (fun h => ?_) | refine c_cond rfl (fun h => ?_) (fun h => ?_))) | refine c_block ?_ | refine c_skip ?_ | refine c_exit ?_ | refine c_regionQN rfl rfl (by decide +kernel) ?_)) | apply s_stepQ | (refine kQG ?_; (first | refine s_gyesQ rfl rfl rfl ?_ | refine s_gnoQ rfl rfl rfl rfl rfl ?_ | ((first | refine s_splitQ_d rfl rfl (fun h => ?_) (fun h => ?_) | refine s_splitQ_n rfl rfl (fun h => ?_) (fun h => ?_)) <;> (try (first | contradiction | (exfalso; omega)))) | refine s_splitQ_nb rfl rfl (fun h => ?_) (fun h => ?_) | refine s_splitQ rfl rfl (fun h => ?_) (fun h => ?_))) | refine lQ_then ?_ | refine lQ_ends ?_ | (refine kE ?_; (first | refine e_then_r ?_ | refine e_block_r ?_ | refine e_then_n ?_ | refine e_then_x ?_ | refine e_block_n ?_ | refine e_block_x ?_ | refine e_block_y rfl ?_)) | refine l_ends ?_)
    · have q1 := hm j.1 (by omega)
      exact e_round (j.1 + 1, _) ⟨by dsimp only; omega, by dsimp only; repeat' first | exact hj2 | apply keepsDs_set | omega, by dsimp only; simp only [List.length_set]; exact hj3⟩ ⟨slook_to rfl (vint_to (by push_cast; rfl)), slook_to rfl (vint_to (by rw [hs j.1]; push_cast; omega)), (by repeat' first | exact trivial | refine ⟨rfl, ?_⟩)⟩ (fun w hw => hw.sub (selO_sub [false, true, false, true, true] _ _ rfl)) (by dsimp only; omega)
    · have e : j.1 = l.length := by omega
      exact s_leave1 rfl rfl (fun w hw => ⟨_, [], [], rfl, by rw [hsl, e]; exact vint_to (by push_cast; omega), hw.gone⟩)
theorem c_markScene (x : DScene) (v : Value) (H : SPiece) (k : Int) (W : World) (hv : OElems eSurf 68 v x.ss H) (hH : Holds W H) (hn : H.keys.Nodup) (hk : 0 ≤ k ∧ k ≤ 1000000000) (hl : x.ss.length ≤ 1048576 ∧ surfsLen x.ss ≤ 1048576) :
    SYieldsG Try.prog 14 #[vScene x v, .int .i64 k] H (fun u H' F => u = .int .i64 (k + 9 * x.ss.length + surfsLen x.ss)) W := by
  refine SYieldsG.mk (s_enterM Try.func14 rfl Try.ntmps14 rfl hH hn ?_)
  repeat' (first | exact rfl | (apply kO; (first | exact ov_pure rfl | (apply kOBin; (first | exact aBin)) | (apply kOCall; (first | (apply kCallB; (first | exact aBlt | exact aLenR)))) | (apply kOLoad; (first | exact aLdF | exact aLdR)) | exact ov_fieldAddr rfl | (apply kOIdx; (first | exact aIdx)) | exact aRest | exact aNew | exact (ov_field1 (ft := 25) rfl rfl rfl rfl))) | (refine kN ?_; (first | (refine kCall ?_; (first | (refine kWFn 42 ?_; (refine s_callG _ (H := H) (fun u H' F => u = .int .i64 (k + 9 * x.ss.length + surfsLen x.ss)) rfl gpA (fun w hw hh hn => c_markSurfaceS v x.ss H k w hv hh hn hk hl) rfl (fun u H' F hu => ?_); subst hu)) | apply s_step)) | (refine kStore ?_; (first | refine s_store1 _ rfl rfl gpA rfl (by rfl) ?_ | refine s_storeS _ rfl rfl gpA rfl rfl (by rfl) ?_ | refine s_storeS _ rfl rfl gpA rfl (ones_img oiA) (by rfl) ?_)) | refine s_boxS rfl rfl (fun b hb => ?_) | refine s_allocS rfl (fun b hb => ?_) | refine s_box1 rfl rfl rfl (fun b hb => ?_) | refine s_alloc1 rfl rfl (fun b hb => ?_) | refine s_buildSlice0 rfl (fun b hb => ?_) | refine s_buildSlice rfl rfl rfl rfl rfl (fun b hb => ?_) | apply s_step)) | (refine kG ?_; (first | refine s_gyes rfl rfl rfl ?_ | refine s_gno rfl rfl rfl rfl rfl ?_ | ((first | refine s_split_d rfl rfl (fun h => ?_) (fun h => ?_) | refine s_split_n rfl rfl (fun h => ?_) (fun h => ?_)) <;> (try (first | contradiction | (exfalso; omega)))) | refine s_split_nb rfl rfl (fun h => ?_) (fun h => ?_) | refine s_split rfl rfl (fun h => ?_) (fun h => ?_))) | refine l_then ?_ | (refine kC ?_; (first | refine c_seq ?_ | refine c_regionN rfl ?_ | refine c_ret ?_ | (refine kCond ?_; (first | refine c_cond_t rfl ?_ | refine c_cond_f rfl ?_ | ((first | refine c_cond_d rfl (fun h => ?_) (fun h => ?_) | refine c_cond_n rfl (fun h => ?_) (fun h => ?_)) <;> (try (first | contradiction | (exfalso; omega)))) | refine c_cond_nb rfl (fun h => ?_) (fun h => ?_) | refine c_cond rfl (fun h => ?_) (fun h => ?_))) | refine c_block ?_ | refine c_skip ?_ | refine c_exit ?_ | refine c_regionQN rfl rfl (by decide +kernel) ?_)) | apply s_stepQ | (refine kQG ?_; (first | refine s_gyesQ rfl rfl rfl ?_ | refine s_gnoQ rfl rfl rfl rfl rfl ?_ | ((first | refine s_splitQ_d rfl rfl (fun h => ?_) (fun h => ?_) | refine s_splitQ_n rfl rfl (fun h => ?_) (fun h => ?_)) <;> (try (first | contradiction | (exfalso; omega)))) | refine s_splitQ_nb rfl rfl (fun h => ?_) (fun h => ?_) | refine s_splitQ rfl rfl (fun h => ?_) (fun h => ?_))) | refine lQ_then ?_ | refine lQ_ends ?_ | (refine kE ?_; (first | refine e_then_r ?_ | refine e_block_r ?_ | refine e_then_n ?_ | refine e_then_x ?_ | refine e_block_n ?_ | refine e_block_x ?_ | refine e_block_y rfl ?_)) | refine l_ends ?_)
  all_goals exact s_leave1 rfl rfl (fun w hw => ⟨_, [], [], rfl, rfl, hw.gone⟩)
section
variable {n : Nat} {lo : SMut} {s : World} {ops : Array Oper} {Q : Exit → Act → World → Prop} {E : SEnv} {L : SHeap} {dd : Nat} {ty : TypeId} {pos : String} {after : Array Edge} {rest : List Oper}
theorem s_markScene (i : Nat) (x : DScene) {v : Value} {k : Int} {H : SPiece} {args : List Operand} {ts : Array TypeId} (ha : svals E args = some [vScene x v, .int .i64 k]) (hv : OElems eSurf 68 v x.ss H) (hL : getL L i = some H) (hk : 0 ≤ k ∧ k ≤ 1000000000) (hl : x.ss.length ≤ 1048576 ∧ surfsLen x.ss ≤ 1048576) (hd : Nat.blt dd n = true)
    (c : ∀ H' F, WPL Try.prog n lo s ops Q rest ((dd, .int .i64 (k + 9 * x.ss.length + surfsLen x.ss)) :: E) (F :: setL L i H')) :
    WPL Try.prog n lo s ops Q (⟨some dd, .call { callee := .value (.func 14), args := args.toArray, argTypes := ts }, ty, pos, after, none⟩ :: rest) E L :=
  s_callG i (fun u H' F => u = .int .i64 (k + 9 * x.ss.length + surfsLen x.ss)) ha hL (fun w hw hh hn => c_markScene x v H k w hv hh hn hk hl) hd (fun v' H' F hu => by subst hu; exact c H' F)
end
end Go.Proofs.Ytiainpcigdenaaa
namespace Sx

abbrev Grid := Nat → Nat → Bool
def Grid.eqv (g h : Grid) : Prop := ∀ y x, y < 16 → x < 16 → g y x = h y x
theorem Grid.eqv.refl (g : Grid) : g.eqv g := fun _ _ _ _ => rfl
theorem Grid.eqv.trans {g h k : Grid} (e : g.eqv h) (f : h.eqv k) : g.eqv k := fun y x hy hx => (e y x hy hx).trans (f y x hy hx)
def rnlF (f : Nat → Bool) : Nat → Nat → Nat
  | 0, _ => 0
  | k + 1, x => if x < 16 ∧ f x = true then rnlF f k (x + 1) + 1 else 0
def rnl (f : Nat → Bool) (x : Nat) : Nat := rnlF f (16 - x) x
theorem rnlF_is (f : Nat → Bool) : ∀ (k x : Nat), 16 - x ≤ k → (∀ i, x ≤ i → i < x + rnlF f k x → i < 16 ∧ f i = true) ∧ ¬ (x + rnlF f k x < 16 ∧ f (x + rnlF f k x) = true)
  | 0, x, hk => ⟨fun i h1 h2 => by simp only [rnlF] at h2; omega, fun h => by simp only [rnlF] at h; omega⟩
  | k + 1, x, hk => by
    unfold rnlF
    by_cases h : x < 16 ∧ f x = true
    · rw [if_pos h]
      have ih := rnlF_is f k (x + 1) (by omega)
      refine ⟨fun i h1 h2 => ?_, fun h2 => ih.2 ?_⟩
      · by_cases e : i = x
        · subst e; exact h
        · exact ih.1 i (by omega) (by omega)
      · rw [show x + 1 + rnlF f k (x + 1) = x + (rnlF f k (x + 1) + 1) by omega]; exact h2
    · rw [if_neg h]
      exact ⟨fun i h1 h2 => by omega, h⟩
theorem rnl_in {f : Nat → Bool} {x i : Nat} (h1 : x ≤ i) (h2 : i < x + rnl f x) : i < 16 ∧ f i = true := (rnlF_is f _ x (Nat.le_refl _)).1 i h1 h2
theorem rnl_end {f : Nat → Bool} {x : Nat} : ¬ (x + rnl f x < 16 ∧ f (x + rnl f x) = true) := (rnlF_is f _ x (Nat.le_refl _)).2
theorem rnl_eq {f : Nat → Bool} {x w : Nat} (h1 : ∀ i, x ≤ i → i < x + w → i < 16 ∧ f i = true) (h2 : ¬ (x + w < 16 ∧ f (x + w) = true)) : rnl f x = w := by
  rcases Nat.lt_trichotomy (rnl f x) w with h | h | h
  · exact absurd (h1 (x + rnl f x) (by omega) (by omega)) rnl_end
  · exact h
  · exact absurd (rnl_in (f := f) (x := x) (i := x + w) (by omega) (by omega)) h2
theorem rnl_le {f : Nat → Bool} {x : Nat} (hx : x ≤ 16) : x + rnl f x ≤ 16 := by
  by_cases h : rnl f x = 0
  · omega
  · have := (rnl_in (f := f) (x := x) (i := x + rnl f x - 1) (by omega) (by omega)).1; omega
theorem rnl_congr {f g : Nat → Bool} {x : Nat} (h : ∀ i, i < 16 → f i = g i) : rnl f x = rnl g x :=
  rnl_eq (fun i h1 h2 => by have := rnl_in h1 h2; exact ⟨this.1, by rw [h i this.1]; exact this.2⟩) (fun hh => rnl_end (f := g) (x := x) ⟨hh.1, by rw [← h _ hh.1]; exact hh.2⟩)
def rowF (f : Nat → Bool) (y h : Int) : Nat → Nat → List DRect
  | 0, _ => []
  | k + 1, x => if x < 16 then (if rnl f x = 0 then [] else [⟨x, y, rnl f x, h⟩]) ++ rowF f y h k (x + rnl f x + 1) else []
def rowR (f : Nat → Bool) (y h : Int) (x : Nat) : List DRect := rowF f y h (16 - x) x
theorem rowF_fuel (f : Nat → Bool) (y h : Int) : ∀ (k j x : Nat), 16 - x ≤ k → 16 - x ≤ j → rowF f y h k x = rowF f y h j x
  | 0, 0, x, _, _ => rfl
  | 0, j + 1, x, hk, _ => by unfold rowF; rw [if_neg (by omega)]
  | k + 1, 0, x, _, hj => by unfold rowF; rw [if_neg (by omega)]
  | k + 1, j + 1, x, hk, hj => by
    unfold rowF
    by_cases hx : x < 16
    · rw [if_pos hx, if_pos hx, rowF_fuel f y h k j _ (by omega) (by omega)]
    · rw [if_neg hx, if_neg hx]
theorem rowR_done {f : Nat → Bool} {y h : Int} {x : Nat} (hx : 16 ≤ x) : rowR f y h x = [] := by
  unfold rowR; rw [show 16 - x = 0 by omega]; rfl
theorem rowR_step {f : Nat → Bool} {y h : Int} {x : Nat} (hx : x < 16) : rowR f y h x = (if rnl f x = 0 then [] else [⟨x, y, rnl f x, h⟩]) ++ rowR f y h (x + rnl f x + 1) := by
  unfold rowR
  rw [show 16 - x = (15 - x) + 1 by omega]
  conv => lhs; unfold rowF
  rw [if_pos hx, rowF_fuel f y h (15 - x) (16 - (x + rnl f x + 1)) _ (by omega) (by omega)]
theorem row_ind {P : Nat → Prop} (h1 : ∀ x, 16 ≤ x → P x) (h2 : ∀ x, x < 16 → (∀ z, x < z → P z) → P x) : ∀ x, P x := by
  have key : ∀ k x, 16 - x ≤ k → P x := by
    intro k
    induction k with
    | zero => intro x h; exact h1 x (by omega)
    | succ k ih =>
      intro x h
      by_cases hx : x < 16
      · exact h2 x hx (fun z hz => ih z (by omega))
      · exact h1 x (by omega)
  exact fun x => key (16 - x) x (Nat.le_refl _)
theorem rowR_congr {f g : Nat → Bool} {y h : Int} (e : ∀ i, i < 16 → f i = g i) : ∀ x, rowR f y h x = rowR g y h x :=
  row_ind (fun x hx => by rw [rowR_done hx, rowR_done hx]) (fun x hx ih => by rw [rowR_step hx, rowR_step hx, rnl_congr (f := f) (g := g) e, ih _ (by omega)])
def sameRow (g : Grid) (y z : Nat) : Bool := (List.range 16).all (fun x => g z x == g y x)
theorem sameRow_iff {g : Grid} {y z : Nat} : sameRow g y z = true ↔ ∀ x, x < 16 → g z x = g y x := by simp [sameRow]
def hgt (g : Grid) (y : Nat) : Nat := 1 + rnl (sameRow g y) (y + 1)
def canonF (g : Grid) : Nat → Nat → List DRect
  | 0, _ => []
  | k + 1, y => if y < 16 then rowR (g y) y (hgt g y) 0 ++ canonF g k (y + hgt g y) else []
def canonR (g : Grid) (y : Nat) : List DRect := canonF g (16 - y) y
def canon (g : Grid) : List DRect := canonR g 0
theorem canonF_fuel (g : Grid) : ∀ (k j y : Nat), 16 - y ≤ k → 16 - y ≤ j → canonF g k y = canonF g j y
  | 0, 0, x, _, _ => rfl
  | 0, j + 1, y, hk, _ => by unfold canonF; rw [if_neg (by omega)]
  | k + 1, 0, y, _, hj => by unfold canonF; rw [if_neg (by omega)]
  | k + 1, j + 1, y, hk, hj => by
    have := (show 1 ≤ hgt g y by unfold hgt; omega)
    unfold canonF
    by_cases hy : y < 16
    · rw [if_pos hy, if_pos hy, canonF_fuel g k j _ (by omega) (by omega)]
    · rw [if_neg hy, if_neg hy]
theorem hgt_pos (g : Grid) (y : Nat) : 1 ≤ hgt g y := by unfold hgt; omega
theorem hgt_le {g : Grid} {y : Nat} (hy : y < 16) : y + hgt g y ≤ 16 := by
  have := rnl_le (f := sameRow g y) (x := y + 1) (by omega); unfold hgt; omega
theorem hgt_in {g : Grid} {y z x : Nat} (h1 : y ≤ z) (h2 : z < y + hgt g y) (hx : x < 16) : g z x = g y x := by
  by_cases e : z = y
  · subst e; rfl
  · exact sameRow_iff.1 (rnl_in (f := sameRow g y) (x := y + 1) (i := z) (by omega) (by unfold hgt at h2; omega)).2 x hx
theorem canonR_done {g : Grid} {y : Nat} (hy : 16 ≤ y) : canonR g y = [] := by unfold canonR; rw [show 16 - y = 0 by omega]; rfl
theorem canonR_step {g : Grid} {y : Nat} (hy : y < 16) : canonR g y = rowR (g y) y (hgt g y) 0 ++ canonR g (y + hgt g y) := by
  have := hgt_pos g y
  unfold canonR
  rw [show 16 - y = (15 - y) + 1 by omega]
  conv => lhs; unfold canonF
  rw [if_pos hy, canonF_fuel g (15 - y) (16 - (y + hgt g y)) _ (by omega) (by omega)]
theorem sameRow_congr {g k : Grid} (e : g.eqv k) {y z : Nat} (hy : y < 16) (hz : z < 16) : sameRow g y z = sameRow k y z := by
  rw [Bool.eq_iff_iff, sameRow_iff, sameRow_iff]
  exact ⟨fun h x hx => by rw [← e z x hz hx, ← e y x hy hx]; exact h x hx, fun h x hx => by rw [e z x hz hx, e y x hy hx]; exact h x hx⟩
theorem hgt_congr {g k : Grid} (e : g.eqv k) {y : Nat} (hy : y < 16) : hgt g y = hgt k y := by
  unfold hgt; rw [rnl_congr (fun i hi => sameRow_congr e hy hi)]
theorem canonR_congr {g k : Grid} (e : g.eqv k) : ∀ y, canonR g y = canonR k y :=
  row_ind (fun y hy => by rw [canonR_done hy, canonR_done hy]) (fun y hy ih => by
    have := hgt_pos g y
    rw [canonR_step hy, canonR_step hy, hgt_congr e hy, rowR_congr (fun i hi => e y i hy hi)]
    rw [hgt_congr e hy] at this
    rw [ih _ (by omega)])
theorem canon_congr {g k : Grid} (e : g.eqv k) : canon g = canon k := canonR_congr e 0

def DRect.holds (r : DRect) (y x : Nat) : Bool := decide (r.has x y)
def points (l : List DRect) : Grid := fun y x => l.any (fun r => r.holds y x)
theorem points_nil (y x : Nat) : points [] y x = false := rfl
theorem points_cons (r : DRect) (l : List DRect) (y x : Nat) : points (r :: l) y x = (r.holds y x || points l y x) := by simp [points]
theorem points_append (k l : List DRect) (y x : Nat) : points (k ++ l) y x = (points k y x || points l y x) := by simp [points]
def DRect.inScreen (r : DRect) : Prop := 0 ≤ r.X ∧ 0 ≤ r.Y ∧ 1 ≤ r.W ∧ 1 ≤ r.H ∧ r.X + r.W ≤ 16 ∧ r.Y + r.H ≤ 16
theorem rowR_in {f : Nat → Bool} {y h : Int} (hy : 0 ≤ y) (hh : 1 ≤ h) (hs : y + h ≤ 16) : ∀ x, ∀ r ∈ rowR f y h x, r.inScreen ∧ r.Y = y ∧ r.H = h ∧ (x : Int) ≤ r.X :=
  row_ind (fun x hx r hr => by rw [rowR_done hx] at hr; cases hr) (fun x hx ih r hr => by
    rw [rowR_step hx, List.mem_append] at hr
    have hle := rnl_le (f := f) (x := x) (by omega)
    rcases hr with hr | hr
    · split at hr
      · cases hr
      · rw [List.mem_singleton] at hr
        subst hr
        unfold DRect.inScreen; dsimp only; omega
    · have := ih _ (by omega) r hr
      exact ⟨this.1, this.2.1, this.2.2.1, by omega⟩)
theorem rowR_points {f : Nat → Bool} {y h : Int} (hy : 0 ≤ y) (hh : 1 ≤ h) (hs : y + h ≤ 16) : ∀ x, ∀ b a : Nat, points (rowR f y h x) b a = decide (x ≤ a ∧ a < 16 ∧ f a = true ∧ y ≤ b ∧ (b : Int) < y + h) :=
  row_ind (fun x hx b a => by rw [rowR_done hx, points_nil]; exact (decide_eq_false (by omega)).symm) (fun x hx ih b a => by
    have hle := rnl_le (f := f) (x := x) (by omega)
    have hend := rnl_end (f := f) (x := x)
    have hin := fun i => rnl_in (f := f) (x := x) (i := i)
    rw [rowR_step hx, points_append, ih _ (by omega)]
    have e1 : points (if rnl f x = 0 then [] else [⟨x, y, rnl f x, h⟩]) b a = decide (x ≤ a ∧ a < x + rnl f x ∧ y ≤ b ∧ (b : Int) < y + h) := by
      split
      · rw [points_nil]; exact (decide_eq_false (by omega)).symm
      · rw [points_cons, points_nil, Bool.or_false]
        unfold DRect.holds DRect.has DRect.ok
        dsimp only
        exact decide_eq_decide.2 (by omega)
    rw [e1, ← Bool.decide_or]
    refine decide_eq_decide.2 ⟨fun hh => ?_, fun hh => ?_⟩
    · rcases hh with hh | hh
      · have := hin a hh.1 hh.2.1; exact ⟨hh.1, this.1, this.2, hh.2.2.1, hh.2.2.2⟩
      · exact ⟨by omega, hh.2.1, hh.2.2.1, hh.2.2.2.1, hh.2.2.2.2⟩
    · obtain ⟨h1, h2, h3, h4, h5⟩ := hh
      by_cases e : a < x + rnl f x
      · exact .inl ⟨h1, e, h4, h5⟩
      · by_cases e2 : a = x + rnl f x
        · subst e2; exact absurd ⟨h2, h3⟩ hend
        · exact .inr ⟨by omega, h2, h3, h4, h5⟩)
theorem canonR_points {g : Grid} : ∀ y, ∀ b a : Nat, b < 16 → a < 16 → points (canonR g y) b a = (decide (y ≤ b) && g b a) :=
  row_ind (fun y hy b a hb ha => by rw [canonR_done hy, points_nil, decide_eq_false (by omega), Bool.false_and]) (fun y hy ih b a hb ha => by
    have h1 := hgt_pos g y
    have h2 := hgt_le (g := g) hy
    rw [canonR_step hy, points_append, ih _ (by omega) b a hb ha, rowR_points (by omega) (by omega) (by omega)]
    by_cases e1 : y ≤ b
    · by_cases e2 : b < y + hgt g y
      · rw [hgt_in e1 e2 ha]
        rw [decide_eq_false (show ¬ (y + hgt g y ≤ b) by omega), Bool.false_and, Bool.or_false, decide_eq_true e1, Bool.true_and]
        generalize g y a = q
        cases q
        · exact decide_eq_false (by simp)
        · exact decide_eq_true ⟨by omega, ha, rfl, by omega, by omega⟩
      · rw [decide_eq_false (by omega), Bool.false_or, decide_eq_true e1, decide_eq_true (show y + hgt g y ≤ b by omega)]
    · rw [decide_eq_false (by omega), Bool.false_or, decide_eq_false e1, decide_eq_false (show ¬ (y + hgt g y ≤ b) by omega)])
theorem points_canon (g : Grid) : (points (canon g)).eqv g := fun y x hy hx => by
  rw [canon, canonR_points 0 y x hy hx, decide_eq_true (Nat.zero_le _), Bool.true_and]
theorem canon_points (g : Grid) : canon (points (canon g)) = canon g := canon_congr (points_canon g)
def regionOk (l : List DRect) : Prop := canon (points l) = l
instance (l : List DRect) : Decidable (regionOk l) := by unfold regionOk; infer_instance
theorem regionOk_canon (g : Grid) : regionOk (canon g) := canon_points g
theorem rowR_length {f : Nat → Bool} {y h : Int} : ∀ x, (rowR f y h x).length ≤ (17 - x) / 2 :=
  row_ind (fun x hx => by rw [rowR_done hx]; simp) (fun x hx ih => by
    rw [rowR_step hx, List.length_append]
    split
    · have := ih (x + rnl f x + 1) (by omega); simp only [List.length_nil]
      have hz : rnl f x = 0 := by assumption
      rw [hz] at this ⊢; omega
    · have := ih (x + rnl f x + 1) (by omega); simp only [List.length_cons, List.length_nil]; omega)
theorem canonR_length {g : Grid} : ∀ y, (canonR g y).length ≤ 8 * (16 - y) :=
  row_ind (fun y hy => by rw [canonR_done hy]; simp) (fun y hy ih => by
    have h1 := hgt_pos g y
    have h2 := hgt_le (g := g) hy
    have h3 := rowR_length (f := g y) (y := y) (h := hgt g y) 0
    rw [canonR_step hy, List.length_append]
    have := ih (y + hgt g y) (by omega)
    omega)
theorem canon_length (g : Grid) : (canon g).length ≤ 128 := canonR_length 0
theorem regionOk.length {l : List DRect} (h : regionOk l) : l.length ≤ 128 := by have := canon_length (points l); unfold regionOk at h; rwa [h] at this
def area : List DRect → Int
  | [] => 0
  | r :: l => r.W * r.H + area l
def cnt (f : Nat → Bool) : Nat → Nat
  | 0 => 0
  | n + 1 => cnt f n + (if f n = true then 1 else 0)
theorem cnt_congr {f g : Nat → Bool} : ∀ n, (∀ i, i < n → f i = g i) → cnt f n = cnt g n
  | 0, _ => rfl
  | n + 1, h => by simp only [cnt]; rw [cnt_congr n (fun i hi => h i (by omega)), h n (by omega)]
theorem cnt_le (f : Nat → Bool) : ∀ n, cnt f n ≤ n
  | 0 => Nat.le_refl _
  | n + 1 => by have := cnt_le f n; simp only [cnt]; split <;> omega
def sumN (f : Nat → Nat) : Nat → Nat
  | 0 => 0
  | n + 1 => sumN f n + f n
def card (g : Grid) : Nat := sumN (fun y => cnt (g y) 16) 16
def Grid.or (g h : Grid) : Grid := fun y x => g y x || h y x
def Grid.and (g h : Grid) : Grid := fun y x => g y x && h y x
def Grid.without (g h : Grid) : Grid := fun y x => g y x && !h y x
def Grid.none : Grid := fun _ _ => false
theorem Grid.or_congr {g g' h h' : Grid} (e : g.eqv g') (f : h.eqv h') : (g.or h).eqv (g'.or h') := fun y x hy hx => by simp only [Grid.or]; rw [e y x hy hx, f y x hy hx]
def rectG (r : DRect) : Grid := fun y x => r.holds y x
theorem points_one (r : DRect) : points [r] = rectG r := by
  funext y x; rw [points_cons, points_nil, Bool.or_false]; rfl
theorem points_congr_append {k l : List DRect} : points (k ++ l) = (points k).or (points l) := by funext y x; exact points_append k l y x
def DRect.screen : DRect := ⟨0, 0, 16, 16⟩
theorem screen_ok : DRect.screen.ok := by unfold DRect.screen DRect.ok; dsimp only; omega
theorem inter_has {a b : DRect} (ha : a.ok) (hb : b.ok) (x y : Int) : (a.inter b).has x y ↔ a.has x y ∧ b.has x y := by
  have h1 := (DRect.inter_ok ha hb).1
  unfold DRect.has
  constructor
  · rintro ⟨_, h⟩
    unfold DRect.inter at h
    rw [if_pos ⟨ha, hb⟩] at h
    unfold DRect.ok at *
    split at h
    · dsimp only [DRect.zero] at h; omega
    · dsimp only at h; omega
  · rintro ⟨⟨_, h2⟩, ⟨_, h3⟩⟩
    refine ⟨h1, ?_⟩
    unfold DRect.inter
    rw [if_pos ⟨ha, hb⟩]
    split
    · omega
    · dsimp only; omega
theorem inter_not {a b : DRect} (h : ¬ a.ok ∨ ¬ b.ok) : a.inter b = DRect.zero := by
  unfold DRect.inter
  rw [if_neg (by rcases h with h | h; exact fun e => h e.1; exact fun e => h e.2)]
theorem zero_has (x y : Int) : ¬ DRect.zero.has x y := by unfold DRect.has DRect.zero; dsimp only; omega
theorem inter_holds {a b : DRect} (hb : b.ok) (y x : Nat) : (a.inter b).holds y x = (a.holds y x && b.holds y x) := by
  unfold DRect.holds
  by_cases ha : a.ok
  · rw [← Bool.decide_and]; exact decide_eq_decide.2 (inter_has ha hb x y)
  · rw [inter_not (.inl ha), decide_eq_false (zero_has _ _), decide_eq_false (fun h => ha h.1), Bool.false_and]
theorem inter_screen {r : DRect} : (rectG (r.inter DRect.screen)).eqv (rectG r) := fun y x hy hx => by
  show (r.inter DRect.screen).holds y x = r.holds y x
  rw [inter_holds screen_ok]
  have : DRect.screen.holds y x = true := by unfold DRect.holds DRect.has; exact decide_eq_true ⟨screen_ok, by unfold DRect.screen; dsimp only; omega⟩
  rw [this, Bool.and_true]

def bits (f : Nat → Bool) : Nat → Nat
  | 0 => 0
  | n + 1 => bits f n + (if f n = true then 2 ^ n else 0)
theorem bits_lt (f : Nat → Bool) : ∀ n, bits f n < 2 ^ n
  | 0 => by simp [bits]
  | n + 1 => by have := bits_lt f n; simp only [bits]; rw [Nat.pow_succ]; split <;> omega
theorem bits_testBit (f : Nat → Bool) : ∀ n i, (bits f n).testBit i = (decide (i < n) && f i)
  | 0, i => by simp [bits]
  | n + 1, i => by
    have hl := bits_lt f n
    have ih := bits_testBit f n i
    simp only [bits]
    cases hf : f n
    · simp only [Bool.false_eq_true, if_false, Nat.add_zero, ih]
      by_cases e : i = n
      · subst e; simp [hf]
      · by_cases h : i < n
        · simp [h, show i < n + 1 by omega]
        · simp [h, show ¬ i < n + 1 by omega]
    · simp only [if_true]
      rw [Nat.add_comm]
      by_cases e : i = n
      · subst e
        rw [Nat.testBit_two_pow_add_eq]
        rw [Nat.testBit_lt_two_pow hl]
        simp [hf]
      · by_cases h : i < n
        · rw [Nat.testBit_two_pow_add_gt h, ih]
          simp [h, show i < n + 1 by omega]
        · have : 2 ^ n + bits f n < 2 ^ i := by
            have h2 : 2 ^ (n + 1) ≤ 2 ^ i := Nat.pow_le_pow_right (by omega) (by omega)
            rw [Nat.pow_succ] at h2; omega
          rw [Nat.testBit_lt_two_pow this]
          simp [show ¬ i < n + 1 by omega]
theorem bits_or (f g : Nat → Bool) (n : Nat) : bits f n ||| bits g n = bits (fun i => f i || g i) n := by
  apply Nat.eq_of_testBit_eq; intro i
  rw [Nat.testBit_or, bits_testBit, bits_testBit, bits_testBit]; cases decide (i < n) <;> simp
theorem bits_and (f g : Nat → Bool) (n : Nat) : bits f n &&& bits g n = bits (fun i => f i && g i) n := by
  apply Nat.eq_of_testBit_eq; intro i
  rw [Nat.testBit_and, bits_testBit, bits_testBit, bits_testBit]; cases decide (i < n) <;> simp
theorem bits_congr {f g : Nat → Bool} : ∀ n, (∀ i, i < n → f i = g i) → bits f n = bits g n
  | 0, _ => rfl
  | n + 1, h => by simp only [bits]; rw [bits_congr n (fun i hi => h i (by omega)), h n (by omega)]
theorem bits_inj {f g : Nat → Bool} {n : Nat} : bits f n = bits g n ↔ ∀ i, i < n → f i = g i := by
  refine ⟨fun h i hi => ?_, bits_congr n⟩
  have h1 := bits_testBit f n i
  rw [h, bits_testBit] at h1
  simpa [hi] using h1.symm
theorem bits_span {X W n : Nat} (h : X + W ≤ n) : (2 ^ W - 1) * 2 ^ X = bits (fun i => decide (X ≤ i ∧ i < X + W)) n := by
  apply Nat.eq_of_testBit_eq; intro i
  rw [bits_testBit, ← Nat.shiftLeft_eq, Nat.testBit_shiftLeft, Nat.testBit_two_pow_sub_one]
  by_cases h1 : X ≤ i <;> by_cases h2 : i < X + W
  · simp [h1, h2, show i - X < W by omega, show i < n by omega]
  · simp [h1, h2, show ¬ i - X < W by omega]
  · simp [h1]
  · simp [h1]
theorem bits_and_bit (f : Nat → Bool) {n x : Nat} (hx : x < n) : bits f n &&& 2 ^ x = if f x = true then 2 ^ x else 0 := by
  apply Nat.eq_of_testBit_eq; intro i
  rw [Nat.testBit_and, bits_testBit, Nat.testBit_two_pow]
  by_cases e : x = i
  · subst e
    cases f x <;> simp [hx, Nat.testBit_two_pow_self]
  · cases f x <;> simp [e]
end Sx
namespace Go.Proofs.Ytiainpcigdenaaa
open Go Sx
attribute [local irreducible] Exit.then Exit.inBlock bodyPost
section
variable {α : Type} {c : α → List Value} {k : Nat} {T : TypeId}
def OVs (c : α → List Value) (k : Nat) (T : TypeId) (v : Value) (l : List α) (H : SPiece) : Prop := OVec k T v l.length (l.flatMap c) H
def RVs (c : α → List Value) (k : Nat) (d : α) (w : World) (v : Value) (l : List α) : Prop := RRow w v k l.length (fun i => c (l.getD i d))
theorem flatMap_range (d : α) : ∀ l : List α, l.flatMap c = (List.range l.length).flatMap (fun i => c (l.getD i d))
  | [] => rfl
  | x :: l => by
    have := flatMap_range d l
    rw [List.length_cons, List.range_succ_eq_map, List.flatMap_cons, List.flatMap_cons, List.flatMap_map, this]
    rfl
theorem OVs.reads (d : α) (hc : ∀ a, (c a).length = k) {v : Value} {l : List α} {H : SPiece} (h : OVs c k T v l H) {w : World} (hw : Holds w H) : RVs c k d w v l :=
  OVec.reads h hw (Nat.le_trans (OVec.le h) (by decide)) (fun i hi => hc _) (flatMap_range d l)
theorem OVs.form {v : Value} {l : List α} {H : SPiece} (h : OVs c k T v l H) : ∃ a q, v = .slice a l.length q := by
  have key : ∀ {n : Nat} {xs : List Value}, OVec k T v n xs H → ∃ a q, v = .slice a n q := by
    intro n xs hh
    cases hh with
    | nil => exact ⟨_, _, rfl⟩
    | blk b n cap xs r h1 h2 h3 h4 => exact ⟨_, _, rfl⟩
  exact key h
theorem OVs.len {v : Value} {l : List α} {H : SPiece} (h : OVs c k T v l H) : l.length ≤ maxLen := OVec.le h
theorem RVs.keep {d : α} {w w' : World} {v : Value} {l : List α} (h : RVs c k d w v l) (hw : ∀ a u, w.cell? a = some u → w'.cell? a = some u) : RVs c k d w' v l := RRow.keep h hw
theorem RVs.form {d : α} {w : World} {v : Value} {l : List α} (h : RVs c k d w v l) : ∃ a q, v = .slice a l.length q := by
  obtain ⟨a, q, e, _⟩ := RRow.form h; exact ⟨a, q, e⟩
theorem OVs.nil : OVs c k T (.slice none 0 0) ([] : List α) [] := OVec.nil
theorem OVs.empty (b : Nat) : OVs c k T (.slice (some ⟨b, 0, none⟩) 0 0) ([] : List α) [(b, srow [] T)] := by
  have := OVec.blk (k := k) (T := T) b 0 0 [] [] (by simp) (by simp) (Nat.le_refl _) (by decide)
  simpa [OVs] using this
theorem flatMap_length (hc : ∀ a, (c a).length = k) : ∀ l : List α, (l.flatMap c).length = l.length * k
  | [] => by simp
  | x :: l => by rw [List.flatMap_cons, List.length_append, hc, flatMap_length hc l, List.length_cons, Nat.succ_mul]; omega
theorem OVs.whole (hc : ∀ a, (c a).length = k) (b : Nat) (l : List α) (hl : l.length ≤ maxLen) : OVs c k T (.slice (some ⟨b, 0, none⟩) l.length l.length) l [(b, srow (l.flatMap c) T)] := by
  have := OVec.blk (k := k) (T := T) b l.length l.length (l.flatMap c) [] (flatMap_length hc l) (by simpa using flatMap_length hc l) (Nat.le_refl _) hl
  simpa [OVs] using this
end
section
variable {P : Program} {n : Nat} {lo : SMut} {s : World} {ops : Array Oper} {Q : Exit → Act → World → Prop} {E : SEnv} {L : SHeap} {d : Nat} {ty : TypeId} {pos : String} {after : Array Edge} {rest : List Oper}
theorem s_appendVs (i i2 : Nat) {α : Type} {c : α → List Value} {kk : Nat} {t e : TypeId} {x y : Operand} {v z : Value} {by_ b2 : Nat} {l : List α} {a : α} {H : SPiece} {X U : TypeId} [hu : SUnd P t (.slice e)] [hinf : SInf P e z kk by_]
    (hx : sval E x = some v) (hy : sval E y = some (.slice (some ⟨b2, 0, none⟩) 1 1)) (hv : OVs c kk e v l H) (hL : getL L i = some H) (hL2 : getL L i2 = some [(b2, srow (c a) U)])
    (hc : (c a).length = kk) (h1 : oneCells (c a) = true) (hz : z.cells.size = kk) (hk0 : 0 < kk) (hb : l.length + 1 ≤ 100000000) (hby : by_ ≤ 1024) (hd : Nat.blt d n = true)
    (k : ∀ v' H', OVs c kk e v' (l ++ [a]) H' → WPL P n lo s ops Q rest ((d, v') :: E) (setL L i H')) :
    WPL P n lo s ops Q (⟨some d, .call { callee := .builtin .append, args := #[x, y], argTypes := #[t, t] }, X, pos, after, none⟩ :: rest) E L := by
  have hmul : (l.length + 1) * by_ ≤ 100000000 * 1024 := Nat.mul_le_mul hb hby
  refine s_append i (ys := c a) (m := 1) hx hy hv hL hz hk0 (by omega) h1 (fun w hw => ⟨_, _, rfl, fun j q hj => ?_⟩) (by omega) (by omega) hd (fun v' H' h => k v' H' ?_)
  · rw [Addr.add_lit, Nat.zero_add]; exact hw.captured hL2 j q hj
  · have := h
    unfold OVs
    rw [List.flatMap_append, List.length_append]
    simpa using this
end
abbrev ORects (v : Value) (l : List DRect) (H : SPiece) : Prop := OVs cRect 4 97 v l H
abbrev RRects (w : World) (v : Value) (l : List DRect) : Prop := RVs cRect 4 DRect.zero w v l
theorem ORects.rd {v : Value} {l : List DRect} {H : SPiece} (h : ORects v l H) {w : World} (hw : Holds w H) : RRects w v l := OVs.reads (c := cRect) (k := 4) DRect.zero (fun _ => rfl) h hw
abbrev vReg (v : Value) : Value := .agg #[v]
def OReg (u : Value) (l : List DRect) (H : SPiece) : Prop := ∃ v, u = vReg v ∧ ORects v l H
def gvals (g : Grid) : List Bool := (List.range 256).map (fun q => g (q / 16) (q % 16))
theorem gvals_length (g : Grid) : (gvals g).length = 256 := by simp [gvals]
theorem gvals_get (g : Grid) {q : Nat} (h : q < 256) : (gvals g).getD q false = g (q / 16) (q % 16) := by
  simp [gvals, List.getD_eq_getElem?_getD, h]
theorem gvals_at (g : Grid) {y x : Nat} (hy : y < 16) (hx : x < 16) : (gvals g).getD (y * 16 + x) false = g y x := by
  rw [gvals_get g (by omega), show (y * 16 + x) / 16 = y by omega, show (y * 16 + x) % 16 = x by omega]
theorem gvals_congr {g h : Grid} (e : g.eqv h) : gvals g = gvals h := by
  apply List.map_congr_left
  intro q hq
  rw [List.mem_range] at hq
  exact e _ _ (by omega) (by omega)
def Grid.put (g : Grid) (y x : Nat) (v : Bool) : Grid := fun b a => if b = y ∧ a = x then v else g b a
theorem gvals_set (g : Grid) {y x : Nat} (hy : y < 16) (hx : x < 16) (v : Bool) : (gvals g).set (y * 16 + x) v = gvals (Grid.put g y x v) := by
  apply List.ext_getElem?
  intro q
  rw [List.getElem?_set]
  by_cases hq : q < 256
  · have e1 : (gvals g)[q]? = some (g (q / 16) (q % 16)) := by simp [gvals, hq]
    have e2 : (gvals (Grid.put g y x v))[q]? = some (Grid.put g y x v (q / 16) (q % 16)) := by simp [gvals, hq]
    rw [e1, e2, gvals_length]
    unfold Grid.put
    by_cases e : y * 16 + x = q
    · rw [if_pos e, if_pos (by omega), if_pos (by omega)]
    · rw [if_neg e, if_neg (by omega)]
  · rw [if_neg (by omega), List.getElem?_eq_none (by rw [gvals_length]; omega), List.getElem?_eq_none (by rw [gvals_length]; omega)]
abbrev cBool (v : Bool) : List Value := [.bool v]
abbrev OBools (v : Value) (l : List Bool) (H : SPiece) : Prop := OVs cBool 1 4 v l H
abbrev RBools (w : World) (v : Value) (l : List Bool) : Prop := RVs cBool 1 false w v l
theorem OBools.rd {v : Value} {l : List Bool} {H : SPiece} (h : OBools v l H) {w : World} (hw : Holds w H) : RBools w v l := OVs.reads (c := cBool) (k := 1) false (fun _ => rfl) h hw
def bvals (l : List Bool) : List Value := l.map Value.bool
theorem flatMap_cBool : ∀ l : List Bool, l.flatMap cBool = l.map Value.bool
  | [] => rfl
  | x :: l => by rw [List.flatMap_cons, flatMap_cBool l]; rfl
theorem OBools.full (b : Nat) {m : Nat} (q : Bool) (hm : m ≤ maxLen) : OBools (.slice (some ⟨b, 0, none⟩) m m) (List.replicate m q) [(b, srow (List.replicate m (.bool q)) 4)] := by
  have := OVs.whole (c := cBool) (k := 1) (T := 4) (fun _ => rfl) b (List.replicate m q) (by simpa using hm)
  rw [flatMap_cBool] at this
  simpa using this
section
variable {P : Program} {n : Nat} {lo : SMut} {s : World} {ops : Array Oper} {Q : Exit → Act → World → Prop} {E : SEnv} {L : SHeap} {d : Nat} {ty : TypeId} {pos : String} {after : Array Edge} {rest : List Oper}
theorem s_setB (i : Nat) {T : TypeId} {x y : Operand} {v z : Value} {l : List Bool} {H : SPiece} {q : Bool} {k by_ : Nat} [hi : SInf P T z 1 by_]
    (hx : sval E x = some (.pointer (some ⟨(baseOf v).1, (baseOf v).2 + k * 1, none⟩))) (hy : sval E y = some (.bool q)) (hv : OBools v l H) (hL : getL L i = some H) (hk : k < l.length)
    (c : ∀ H', OBools v (l.set k q) H' → WPL P n lo s ops Q rest E (setL L i H')) : WPL P n lo s ops Q (⟨none, .store T x y, ty, pos, after, none⟩ :: rest) E L := by
  unfold OBools OVs at hv
  rw [flatMap_cBool] at hv
  generalize hxs : l.map Value.bool = xs at hv
  generalize hnn : l.length = nn at hv
  cases hv with
  | nil => omega
  | blk b n' cap xs r h1 h2 h3 h4 =>
    subst hxs
    subst hnn
    simp only [baseOf, Nat.zero_add, Nat.mul_one] at hx
    refine s_setR i hx hy hL rfl (by rw [List.length_append, List.length_map]; omega) ?_
    rw [List.set_append_left _ _ (by rw [List.length_map]; exact hk), ← List.map_set]
    refine c _ ?_
    have := OVec.blk (k := 1) (T := 4) b l.length cap ((l.set k q).map Value.bool) r (by rw [List.length_map, List.length_set]; omega) (by rw [List.length_append, List.length_map, List.length_set]; rw [List.length_append, List.length_map] at h2; omega) h3 h4
    unfold OBools OVs
    rw [flatMap_cBool, List.length_set]; exact this
end
end Go.Proofs.Ytiainpcigdenaaa
namespace Go.Proofs.Ytiainpcigdenaaa
open Go Sx
attribute [local irreducible] Exit.then Exit.inBlock bodyPost
section
variable {P : Program} {n : Nat} {lo : SMut} {s : World} {E : SEnv} {L : SHeap} {d : Option Tmp} {ty : TypeId} {pos : String} {after : Array Edge} {g : Option (Nat × Bool)} {x y : Operand} {xt yt : TypeId} {i j : Int}
theorem ov_sliceHi {t e : TypeId} {a : Option Addr} {m c : Nat} {z : Value} {kk by_ : Nat} {ik : IntKind} [hu : SUnd P t (.slice e)] [hi : SInf P e z kk by_] (hx : sval E x = some (.slice a m c)) (hy : sval E y = some (.int ik j)) (hj : 0 ≤ j ∧ j ≤ c) :
    SOpV P n lo s E L ⟨d, .slice t x none (some y) none, ty, pos, after, g⟩ (.slice a j.toNat c) :=
  SOpV.of_run fun aa ha w hw => by
    cases a with
    | none => simp [execOp, Instr.sliceAt, Instr.slice, Instr.sliceBounds, Instr.sliceBound, asIntOf, ha.sval hx, ha.sval hy, srun_und, srun_sizeOf, hj.1, hj.2]
    | some A =>
      have hA : A.add 0 = A := rfl
      simp [execOp, Instr.sliceAt, Instr.slice, Instr.sliceBounds, Instr.sliceBound, asIntOf, ha.sval hx, ha.sval hy, srun_und, srun_sizeOf, hj.1, hj.2, hA]
end
section
variable {P : Program} {n : Nat} {lo : SMut} {s : World} {ops : Array Oper} {Q : Exit → Act → World → Prop} {E : SEnv} {L : SHeap} {d : Nat} {ty : TypeId} {pos : String} {after : Array Edge} {rest : List Oper}
end
end Go.Proofs.Ytiainpcigdenaaa
namespace Go.Proofs.Ytiainpcigdenaaa
open Go Sx
attribute [local irreducible] Exit.then Exit.inBlock bodyPost
theorem rrow_hi {w : World} {a : Option Addr} {m c k : Nat} {cells : Nat → List Value} (h : RRow w (.slice a m c) k m cells) {q : Nat} (hq : q ≤ m) : RRow w (.slice a q c) k q cells := by
  obtain ⟨ad, c', e, h2⟩ := h.form
  injection e with e1 e2 e3
  subst e1
  have hr : m ≤ c := h.room
  have hl := h.len
  exact ⟨⟨_, _, rfl, fun h0 => h2 (by omega)⟩, by omega, fun i hi => h.size i (by omega), fun i hi j u hu => by have := h.cell i (by omega) j u hu; cases a <;> exact this, show q ≤ c by omega⟩
theorem flat_set {α : Type} {c : α → List Value} {kk : Nat} (hc : ∀ a, (c a).length = kk) (l : List α) (r : List Value) {k : Nat} (hk : k < l.length) (a : α) :
    (l.flatMap c ++ r).take (k * kk) ++ c a ++ (l.flatMap c ++ r).drop (k * kk + kk) = (l.set k a).flatMap c ++ r := by
  have e : l = l.take k ++ l[k] :: l.drop (k + 1) := by rw [← List.drop_eq_getElem_cons hk, List.take_append_drop]
  have e1 : l.flatMap c ++ r = (l.take k).flatMap c ++ (c l[k] ++ ((l.drop (k + 1)).flatMap c ++ r)) := by
    conv => lhs; rw [e]
    rw [List.flatMap_append, List.flatMap_cons, List.append_assoc, List.append_assoc]
  have hl : ((l.take k).flatMap c).length = k * kk := by rw [flatMap_length hc, List.length_take, Nat.min_eq_left (by omega)]
  rw [e1, List.take_left' hl, ← List.drop_drop, List.drop_left' hl, List.drop_left' (hc _)]
  rw [List.set_eq_take_append_cons_drop, if_pos hk, List.flatMap_append, List.flatMap_cons]
  simp [List.append_assoc]
section
variable {P : Program} {n : Nat} {lo : SMut} {s : World} {ops : Array Oper} {Q : Exit → Act → World → Prop} {E : SEnv} {L : SHeap} {d : Nat} {ty : TypeId} {pos : String} {after : Array Edge} {rest : List Oper}
theorem s_setVs (i : Nat) {α : Type} {c : α → List Value} {kk : Nat} {T e : TypeId} {x y : Operand} {v z : Value} {by_ k : Nat} {l : List α} {a : α} {H : SPiece} [hi : SInf P T z kk by_]
    (hx : sval E x = some (.pointer (some ⟨(baseOf v).1, (baseOf v).2 + k * kk, none⟩))) (hy : sval E y = some (.agg (c a).toArray)) (hv : OVs c kk e v l H) (hL : getL L i = some H)
    (hc : ∀ a, (c a).length = kk) (h1 : oneCells (c a) = true) (hk : k < l.length)
    (cont : ∀ H', OVs c kk e v (l.set k a) H' → WPL P n lo s ops Q rest E (setL L i H')) : WPL P n lo s ops Q (⟨none, .store T x y, ty, pos, after, none⟩ :: rest) E L := by
  unfold OVs at hv
  generalize hxs : l.flatMap c = xs at hv
  generalize hnn : l.length = nn at hv
  cases hv with
  | nil => omega
  | blk b n' cap xs r h2 h3 h4 h5 =>
    subst hxs
    subst hnn
    simp only [baseOf, Nat.zero_add] at hx
    have hle : k * kk + kk ≤ (l.flatMap c ++ r).length := by
      rw [List.length_append, h2]
      have : (k + 1) * kk ≤ l.length * kk := Nat.mul_le_mul_right _ hk
      rw [Nat.succ_mul] at this; omega
    refine s_setRS i hx hy hL (hc a) h1 hle ?_
    rw [flat_set hc l r hk a]
    refine cont _ ?_
    have := OVec.blk (k := kk) (T := e) b l.length cap ((l.set k a).flatMap c) r (by rw [flatMap_length hc, List.length_set]) (by rw [List.length_append, flatMap_length hc, List.length_set]; rw [List.length_append, h2] at h3; exact h3) h4 h5
    unfold OVs
    rw [List.length_set]; exact this
end
end Go.Proofs.Ytiainpcigdenaaa
namespace Go.Proofs.Ytiainpcigdenaaa
open Go Sx
theorem setL_flat {L : SHeap} {i : Nat} {H : SPiece} (h : getL L i = some H) : L.flatten.Perm (H ++ (setL L i []).flatten) := by
  obtain ⟨A, B, h1, h2⟩ := getL_split h
  rw [h1] at h2 ⊢
  rw [h2]
  simp only [List.flatten_append, List.flatten_cons, List.nil_append]
  exact List.perm_append_comm_assoc ..
theorem setL_put {L : SHeap} {i : Nat} {H H' : SPiece} (h : getL L i = some H) : (setL L i H').flatten.Perm (H' ++ (setL L i []).flatten) := by
  obtain ⟨A, B, h1, h2⟩ := getL_split h
  rw [h2, h2]
  simp only [List.flatten_append, List.flatten_cons, List.nil_append]
  exact List.perm_append_comm_assoc ..
theorem getL_set : ∀ {L : SHeap} {i : Nat} {H X : SPiece}, getL L i = some H → getL (setL L i X) i = some X
  | [], i, H, X, h => by simp [getL] at h
  | x :: r, 0, H, X, h => rfl
  | x :: r, i + 1, H, X, h => getL_set (L := r) (i := i) h
theorem getL_other : ∀ {L : SHeap} {i j : Nat} {X : SPiece}, i ≠ j → getL (setL L i X) j = getL L j
  | [], i, j, X, h => by cases i <;> rfl
  | x :: r, 0, 0, X, h => absurd rfl h
  | x :: r, 0, j + 1, X, h => rfl
  | x :: r, i + 1, 0, X, h => rfl
  | x :: r, i + 1, j + 1, X, h => getL_other (L := r) (i := i) (j := j) (fun e => h (by rw [e]))
theorem setL_twice : ∀ (L : SHeap) (i : Nat) (X Y : SPiece), setL (setL L i X) i Y = setL L i Y
  | [], i, X, Y => by cases i <;> rfl
  | x :: r, 0, X, Y => rfl
  | x :: r, i + 1, X, Y => by show x :: _ = x :: _; rw [setL_twice r i X Y]
theorem setL_comm : ∀ (L : SHeap) {i j : Nat} (X Y : SPiece), i ≠ j → setL (setL L i X) j Y = setL (setL L j Y) i X
  | [], i, j, X, Y, h => by cases i <;> cases j <;> rfl
  | x :: r, 0, 0, X, Y, h => absurd rfl h
  | x :: r, 0, j + 1, X, Y, h => rfl
  | x :: r, i + 1, 0, X, Y, h => rfl
  | x :: r, i + 1, j + 1, X, Y, h => by show x :: _ = x :: _; rw [setL_comm r X Y (fun e => h (by rw [e]))]
theorem nbeq {i j : Nat} (h : Nat.beq i j = false) : i ≠ j := fun e => by subst e; simp at h
section
variable {P : Program} {n : Nat} {lo : SMut} {s : World} {ops : Array Oper} {Q : Exit → Act → World → Prop} {E : SEnv} {L : SHeap} {l : List Oper}
theorem w_perm {L' : SHeap} (hp : L.flatten.Perm L'.flatten) (k : WPL P n lo s ops Q l E L') : WPL P n lo s ops Q l E L := by
  unfold WPL at *
  exact fun a w ha hw => k a w ha (hw.perm hp)
theorem cc_perm {c : Code} {L' : SHeap} (hp : L.flatten.Perm L'.flatten) (k : WPC P n lo s c Q E L') : WPC P n lo s c Q E L := by
  unfold WPC at *
  exact fun a w ha hw => k a w ha (hw.perm hp)
theorem w_split (i : Nat) {A B : SPiece} (h : getL L i = some (A ++ B)) (k : WPL P n lo s ops Q l E (B :: setL L i A)) : WPL P n lo s ops Q l E L := by
  refine w_perm ?_ k
  refine (setL_flat h).trans ?_
  rw [List.flatten_cons, List.append_assoc]
  refine (List.perm_append_comm_assoc ..).trans (List.Perm.append_left _ (setL_put h).symm)
end
section
variable {α : Type} {e : SElem α}
abbrev ETri (α : Type) := α × Value × SPiece
def tcells (e : SElem α) (T : List (ETri α)) : List Value := T.flatMap (fun t => e.cells t.1 t.2.1)
def tpiece (T : List (ETri α)) : SPiece := T.flatMap (fun t => t.2.2)
theorem tcells_length (e : SElem α) : ∀ T : List (ETri α), (tcells e T).length = T.length * e.k
  | [] => by simp [tcells]
  | t :: T => by
    have := tcells_length e T
    unfold tcells at this ⊢
    rw [List.flatMap_cons, List.length_append, e.klen, this, List.length_cons, Nat.succ_mul, Nat.add_comm]
theorem tcells_append (e : SElem α) (A B : List (ETri α)) : tcells e (A ++ B) = tcells e A ++ tcells e B := List.flatMap_append
theorem tpiece_append (A B : List (ETri α)) : tpiece (A ++ B) = tpiece A ++ tpiece B := List.flatMap_append
theorem tcells_one (e : SElem α) (t : ETri α) : tcells e [t] = e.cells t.1 t.2.1 := by simp [tcells]
theorem tpiece_one (t : ETri α) : tpiece [t] = t.2.2 := by simp [tpiece]
theorem tcells_cons (e : SElem α) (t : ETri α) (T : List (ETri α)) : tcells e (t :: T) = e.cells t.1 t.2.1 ++ tcells e T := List.flatMap_cons
theorem tpiece_cons (t : ETri α) (T : List (ETri α)) : tpiece (t :: T) = t.2.2 ++ tpiece T := List.flatMap_cons
theorem _root_.Sx.OElems.tri {U : TypeId} {v : Value} {l : List α} {H : SPiece} (h : OElems e U v l H) :
    ∃ (T : List (ETri α)) (H0 G : SPiece), T.map (·.1) = l ∧ OVec e.k U v T.length (tcells e T) H0 ∧ (∀ t ∈ T, e.own t.2.1 t.1 t.2.2) ∧ H = H0 ++ (tpiece T ++ G) := by
  obtain ⟨ds, H0, Hs, G, h1, h2, rfl⟩ := h
  refine ⟨(List.range l.length).map (fun i => (l.getD i e.dflt, ds i, Hs i)), H0, G, ?_, ?_, ?_, ?_⟩
  · apply List.ext_getElem?
    intro i
    by_cases hi : i < l.length
    · simp [hi]
    · simp [hi]
  · rw [List.length_map, List.length_range]
    have : tcells e ((List.range l.length).map (fun i => (l.getD i e.dflt, ds i, Hs i))) = erows e l ds l.length := by
      unfold tcells erows; rw [List.flatMap_map]
    rw [this]; exact h1
  · intro t ht
    obtain ⟨i, hi, rfl⟩ := List.mem_map.1 ht
    exact h2 i (List.mem_range.1 hi)
  · have : tpiece ((List.range l.length).map (fun i => (l.getD i e.dflt, ds i, Hs i))) = ecat Hs l.length := by
      unfold tpiece ecat; rw [List.flatMap_map]
    rw [this]
theorem flatMap_get {β γ : Type} (f : β → List γ) (d : β) : ∀ l : List β, (List.range l.length).flatMap (fun i => f (l.getD i d)) = l.flatMap f
  | [] => rfl
  | x :: l => by
    have := flatMap_get f d l
    rw [List.length_cons, List.range_succ_eq_map, List.flatMap_cons, List.flatMap_cons, List.flatMap_map, ← this]
    rfl
theorem _root_.Sx.OElems.ofTri {U : TypeId} {v : Value} {T : List (ETri α)} {H0 G : SPiece} (h1 : OVec e.k U v T.length (tcells e T) H0) (h2 : ∀ t ∈ T, e.own t.2.1 t.1 t.2.2) : OElems e U v (T.map (·.1)) (H0 ++ (tpiece T ++ G)) := by
  let d : ETri α := (e.dflt, undef, [])
  have hg : ∀ i, (T.map (·.1)).getD i e.dflt = (T.getD i d).1 := fun i => by
    rw [List.getD_eq_getElem?_getD, List.getD_eq_getElem?_getD, List.getElem?_map]
    cases T[i]? <;> rfl
  refine ⟨fun i => (T.getD i d).2.1, H0, fun i => (T.getD i d).2.2, G, ?_, fun i hi => ?_, ?_⟩
  · rw [List.length_map]
    have : erows e (T.map (·.1)) (fun i => (T.getD i d).2.1) T.length = tcells e T := by
      unfold erows tcells
      rw [← flatMap_get (fun t : ETri α => e.cells t.1 t.2.1) d T]
      exact congrArg (fun f => (List.range T.length).flatMap f) (funext fun i => by rw [hg i])
    rw [this]; exact h1
  · rw [List.length_map] at hi
    rw [hg i]
    have : T.getD i d ∈ T := by rw [List.getD_eq_getElem?_getD, List.getElem?_eq_getElem hi]; exact List.getElem_mem hi
    exact h2 _ this
  · rw [List.length_map]
    have : ecat (fun i => (T.getD i d).2.2) T.length = tpiece T := flatMap_get (fun t : ETri α => t.2.2) d T
    rw [this]
theorem _root_.Sx.OElems.nil {U : TypeId} : OElems e U (.slice none 0 0) ([] : List α) [] := OElems.ofTri (T := []) (G := []) OVec.nil (fun t h => by cases h)
theorem _root_.Sx.OElems.one {U : TypeId} {v : Value} {l : List α} {H : SPiece} (h : OElems e U v l H) : v.oneCell' = true := by
  obtain ⟨a, c, rfl⟩ := h.form; rfl
end
theorem perm5 {α : Type} (a g h q m : List α) : ((a ++ g) ++ (h ++ (q ++ m))).Perm ((q ++ (a ++ h ++ g)) ++ m) := by
  simp only [List.append_assoc]
  refine (List.Perm.append_left a ?_).trans (List.perm_append_comm_assoc a q _)
  refine (List.perm_append_comm_assoc g h _).trans ((List.Perm.append_left h (List.perm_append_comm_assoc g q m)).trans (List.perm_append_comm_assoc h q _))
theorem take_getD {α : Type} {l : List α} {j : Nat} (d : α) (h : j < l.length) : l.take (j + 1) = l.take j ++ [l.getD j d] := by
  rw [List.take_add_one, List.getElem?_eq_getElem h, List.getD_eq_getElem?_getD, List.getElem?_eq_getElem h]; rfl
section
variable {P : Program} {n : Nat} {lo : SMut} {s : World} {ops : Array Oper} {Q : Exit → Act → World → Prop} {E : SEnv} {L : SHeap} {d : Nat} {ty : TypeId} {pos : String} {after : Array Edge} {rest : List Oper}
theorem s_appendE (i i2 i3 : Nat) {α : Type} {el : SElem α} {t e : TypeId} {x y : Operand} {v z : Value} {by_ b2 : Nat} {l : List α} {a : α} {dv : Value} {H Ha : SPiece} {X U : TypeId} [hu : SUnd P t (.slice e)] [hinf : SInf P e z el.k by_]
    (hx : sval E x = some v) (hy : sval E y = some (.slice (some ⟨b2, 0, none⟩) 1 1)) (hv : OElems el e v l H) (hL : getL L i = some H) (hL2 : getL L i2 = some [(b2, srow (el.cells a dv) U)])
    (ha : el.own dv a Ha) (hL3 : getL L i3 = some Ha) (h12 : Nat.beq i i2 = false) (h13 : Nat.beq i i3 = false)
    (h1 : oneCells (el.cells a dv) = true) (hz : z.cells.size = el.k) (hk0 : 0 < el.k) (hb : l.length + 1 ≤ 100000000) (hby : by_ ≤ 1024) (hd : Nat.blt d n = true)
    (k : ∀ v' H', OElems el e v' (l ++ [a]) H' → WPL P n lo s ops Q rest ((d, v') :: E) (setL (setL L i H') i3 [])) :
    WPL P n lo s ops Q (⟨some d, .call { callee := .builtin .append, args := #[x, y], argTypes := #[t, t] }, X, pos, after, none⟩ :: rest) E L := by
  obtain ⟨T, H0, G, rfl, o1, o2, rfl⟩ := hv.tri
  have hmul : (T.length + 1) * by_ ≤ 100000000 * 1024 := Nat.mul_le_mul (by simpa using hb) hby
  have hn2 := nbeq h12
  have hn3 := nbeq h13
  refine w_split i hL ?_
  have g0 : getL (setL L i H0) i = some H0 := getL_set hL
  refine s_append (i + 1) (ys := el.cells a dv) (m := 1) hx hy o1 (show getL (_ :: setL L i H0) (i + 1) = some H0 from g0) hz hk0 (by rw [el.klen, Nat.one_mul]) h1 (fun w hw => ⟨_, _, rfl, fun j q hj => ?_⟩) (by omega) (by simp at hb; omega) hd (fun v' H0' h => ?_)
  · rw [Addr.add_lit, Nat.zero_add]
    exact hw.captured (i := i2 + 1) (show getL (_ :: setL L i H0) (i2 + 1) = _ by show getL (setL L i H0) i2 = _; rw [getL_other hn2]; exact hL2) j q hj
  · show WPL P n lo s ops Q rest _ ((tpiece T ++ G) :: setL (setL L i H0) i H0')
    rw [setL_twice]
    have o3 : OElems el e v' ((T ++ [(a, dv, Ha)]).map (·.1)) (H0' ++ (tpiece (T ++ [(a, dv, Ha)]) ++ G)) := OElems.ofTri (by rw [tcells_append, tcells_one, List.length_append]; exact h) (fun t ht => by
      rcases List.mem_append.1 ht with ht | ht
      · exact o2 t ht
      · rw [List.mem_singleton] at ht; subst ht; exact ha)
    rw [List.map_append] at o3
    refine w_perm ?_ (k v' _ o3)
    rw [tpiece_append, tpiece_one]
    have hLi : getL (setL L i3 []) i = some (H0 ++ (tpiece T ++ G)) := by rw [getL_other (Ne.symm hn3)]; exact hL
    have g3 : getL (setL L i H0') i3 = some Ha := by rw [getL_other hn3]; exact hL3
    have e1 := setL_flat g3
    rw [setL_comm L _ _ hn3] at e1 ⊢
    have e2 := setL_put (H' := H0') hLi
    have e3 := setL_put (H' := H0' ++ (tpiece T ++ Ha ++ G)) hLi
    rw [List.flatten_cons]
    exact (List.Perm.append_left _ (e1.trans (List.Perm.append_left _ e2))).trans ((perm5 _ _ _ _ _).trans e3.symm)
end
end Go.Proofs.Ytiainpcigdenaaa
namespace Go.Proofs.Ytiainpcigdenaaa
open Go Sx
attribute [local irreducible] Exit.then Exit.inBlock bodyPost
def kAt (l : List DSurf) (k : Int) (i : Nat) : Int := k + 10 * (i : Int) + (sumTo (fun i => (l.getD i default).buf.data.length) i : Nat)
theorem kAt_zero (l : List DSurf) (k : Int) : kAt l k 0 = k := by simp [kAt, sumTo]
theorem kAt_succ (l : List DSurf) (k : Int) (i : Nat) : kAt l k (i + 1) = kAt l k i + 10 + ((l.getD i default).buf.data.length : Nat) := by
  have : sumTo (fun i => (l.getD i default).buf.data.length) (i + 1) = sumTo (fun i => (l.getD i default).buf.data.length) i + (l.getD i default).buf.data.length := rfl
  unfold kAt; rw [this]; push_cast; omega
theorem kAt_end (l : List DSurf) (k : Int) : kAt l k l.length = k + 9 * l.length + surfsLen l := by
  unfold kAt surfsLen; push_cast; omega
theorem kAt_bd {l : List DSurf} {k : Int} {i : Nat} (h : i ≤ l.length) : k ≤ kAt l k i ∧ kAt l k i ≤ kAt l k l.length := by
  have := sumTo_mono (fun i => (l.getD i default).buf.data.length) h
  unfold kAt; omega
def markSurf (s : DSurf) (k : Int) : DSurf := ⟨k, k + 1, k + 2, k + 3, k + 4, k + 5, k + 6, decide ((k + 7) % 3 = 0), ⟨k + 8, k + 9, iota (k + 10) s.buf.data.length⟩⟩
def markSurfs (l : List DSurf) (k : Int) : List DSurf := (List.range l.length).map (fun i => markSurf (l.getD i default) (kAt l k i))
theorem markSurfs_length (l : List DSurf) (k : Int) : (markSurfs l k).length = l.length := by simp [markSurfs]
theorem markSurfs_get (l : List DSurf) (k : Int) {i : Nat} (h : i < l.length) : (markSurfs l k).getD i default = markSurf (l.getD i default) (kAt l k i) := by
  simp [markSurfs, List.getD_eq_getElem?_getD, h]
theorem markSurfs_take (l : List DSurf) (k : Int) {i : Nat} (h : i < l.length) : (markSurfs l k).take (i + 1) = (markSurfs l k).take i ++ [markSurf (l.getD i default) (kAt l k i)] := by
  rw [take_getD default (by rw [markSurfs_length]; exact h), markSurfs_get l k h]
theorem set10 {P R : List Value} {a0 a1 a2 a3 a4 a5 a6 a7 a8 a9 b0 b1 b2 b3 b4 b5 b6 b7 b8 b9 : Value} {p : Nat} (hp : P.length = p) :
    (((((((((((P ++ (a0 :: a1 :: a2 :: a3 :: a4 :: a5 :: a6 :: a7 :: a8 :: a9 :: R)).set p b0).set (p + 1) b1).set (p + 2) b2).set (p + 3) b3).set (p + 4) b4).set (p + 5) b5).set (p + 6) b6).set (p + 7) b7).set (p + 8) b8).set (p + 9) b9) = P ++ (b0 :: b1 :: b2 :: b3 :: b4 :: b5 :: b6 :: b7 :: b8 :: b9 :: R) := by
  subst hp
  rw [List.set_append_right _ _ (Nat.le_refl _), List.set_append_right _ _ (by omega), List.set_append_right _ _ (by omega), List.set_append_right _ _ (by omega), List.set_append_right _ _ (by omega), List.set_append_right _ _ (by omega), List.set_append_right _ _ (by omega), List.set_append_right _ _ (by omega), List.set_append_right _ _ (by omega), List.set_append_right _ _ (by omega)]
  rw [Nat.sub_self, show P.length + 1 - P.length = 1 by omega, show P.length + 2 - P.length = 2 by omega, show P.length + 3 - P.length = 3 by omega, show P.length + 4 - P.length = 4 by omega, show P.length + 5 - P.length = 5 by omega, show P.length + 6 - P.length = 6 by omega, show P.length + 7 - P.length = 7 by omega, show P.length + 8 - P.length = 8 by omega, show P.length + 9 - P.length = 9 by omega]
  rfl
def keepsD (o : Nat) (d : Value) (cells : List Value) : Prop := cells[o]? = some d
theorem keepsD_set {o q : Nat} {d v : Value} {cells : List Value} (h : keepsD o d cells) (hq : q ≠ o) : keepsD o d (cells.set q v) := by
  unfold keepsD; rw [List.getElem?_set_ne hq]; exact h
theorem keepsD_get {o q : Nat} {d : Value} {cells : List Value} (h : keepsD o d cells) (e : q = o) : snth cells q = some d := by rw [snth_eq, e]; exact h
abbrev dT : ETri DSurf := (default, undef, [])
theorem drop_getT {T : List (ETri DSurf)} {j : Nat} (h : j < T.length) : T.drop j = T.getD j dT :: T.drop (j + 1) := by
  rw [List.drop_eq_getElem_cons h, List.getD_eq_getElem?_getD, List.getElem?_eq_getElem h]; rfl
theorem getT_mem {T : List (ETri DSurf)} {j : Nat} (h : j < T.length) : T.getD j dT ∈ T := by
  rw [List.getD_eq_getElem?_getD, List.getElem?_eq_getElem h]; exact List.getElem_mem h
theorem getT_fst {T : List (ETri DSurf)} {j : Nat} : (T.getD j dT).1 = (T.map (·.1)).getD j default := by
  rw [List.getD_eq_getElem?_getD, List.getD_eq_getElem?_getD, List.getElem?_map]
  cases T[j]? <;> rfl
theorem surf_cells_at {A : List Value} {R : List Value} {s : DSurf} {d : Value} {p : Nat} (hp : A.length = p) : keepsD (p + 10) d (A ++ (eSurf.cells s d ++ R)) := by
  unfold keepsD
  rw [List.getElem?_append_right (by omega), show p + 10 - A.length = 10 by omega]; rfl
set_option maxHeartbeats 8000000 in
theorem c_markSurfs (v : Value) (l : List DSurf) (H : SPiece) (k : Int) (W : World) (hv : OElems eSurf 68 v l H) (hH : Holds W H) (hn : H.keys.Nodup) (hk : 0 ≤ k ∧ k ≤ 1000000000) (hl : l.length ≤ 1048576 ∧ surfsLen l ≤ 1048576) :
    SYieldsG Try.prog 42 #[v, .int .i64 k] H (fun u H' F => u = .int .i64 (kAt l k l.length) ∧ OElems eSurf 68 v (markSurfs l k) H' ∧ F = []) W := by
  obtain ⟨T, H0, G, hT, h1, h2, rfl⟩ := hv.tri
  have hTl : T.length = l.length := by rw [← hT, List.length_map]
  have hke := kAt_end l k
  have hkb := fun j (h : j ≤ l.length) => kAt_bd (k := k) h
  have hks := kAt_succ l k
  have hcl := fun T' => tcells_length eSurf T'
  rcases OVec.inv h1 with ⟨rfl, hn0, rfl⟩ | ⟨b0, cap, r, rfl, rfl, hcap, hnc, hcm⟩
  · have hl0 : l = [] := List.eq_nil_of_length_eq_zero (by omega)
    subst hl0
    refine SYieldsG.mk (s_enterM Try.func42 rfl Try.ntmps42 rfl hH hn ?_)
    repeat' (first | exact rfl | (apply kO; (first | exact ov_pure rfl | (apply kOBin; (first | exact aBin)) | (apply kOCall; (first | (apply kCallB; (first | exact aBlt | exact aLenR)))) | (apply kOLoad; (first | exact aLdF | exact aLdR)) | exact ov_fieldAddr rfl | (apply kOIdx; (first | exact aIdx)) | exact aRest | exact aNew | exact (ov_field1 (ft := 25) rfl rfl rfl rfl))) | (refine kN ?_; (first | (refine kStore ?_; (first | refine s_store1 _ rfl rfl gpA rfl (by rfl) ?_ | refine s_storeS _ rfl rfl gpA rfl rfl (by rfl) ?_ | refine s_storeS _ rfl rfl gpA rfl (ones_img oiA) (by rfl) ?_)) | refine s_boxS rfl rfl (fun b hb => ?_) | refine s_allocS rfl (fun b hb => ?_) | refine s_box1 rfl rfl rfl (fun b hb => ?_) | refine s_alloc1 rfl rfl (fun b hb => ?_) | refine s_buildSlice0 rfl (fun b hb => ?_) | refine s_buildSlice rfl rfl rfl rfl rfl (fun b hb => ?_) | apply s_step)) | (refine kG ?_; (first | refine s_gyes rfl rfl rfl ?_ | refine s_gno rfl rfl rfl rfl rfl ?_ | ((first | refine s_split_d rfl rfl (fun h => ?_) (fun h => ?_) | refine s_split_n rfl rfl (fun h => ?_) (fun h => ?_)) <;> (try (first | contradiction | (exfalso; omega)))) | refine s_split_nb rfl rfl (fun h => ?_) (fun h => ?_) | refine s_split rfl rfl (fun h => ?_) (fun h => ?_))) | refine l_then ?_ | (refine kC ?_; (first | (refine c_loopV (ι := Nat) (fun j => j = 0) (fun j => [(5, .int .i64 (j : Int)), (1, .int .i64 k)]) (fun j => [_]) (fun j => 0) 0 rfl rfl (fun _ => rfl) ⟨rfl, rfl, trivial⟩ (fun w hw => hw) (fun j hj => ?_)) | refine c_seq ?_ | refine c_regionN rfl ?_ | refine c_ret ?_ | (refine kCond ?_; (first | refine c_cond_t rfl ?_ | refine c_cond_f rfl ?_ | ((first | refine c_cond_d rfl (fun h => ?_) (fun h => ?_) | refine c_cond_n rfl (fun h => ?_) (fun h => ?_)) <;> (try (first | contradiction | (exfalso; omega)))) | refine c_cond_nb rfl (fun h => ?_) (fun h => ?_) | refine c_cond rfl (fun h => ?_) (fun h => ?_))) | refine c_block ?_ | refine c_skip ?_ | refine c_exit ?_ | refine c_regionQN rfl rfl (by decide +kernel) ?_)) | apply s_stepQ | (refine kQG ?_; (first | refine s_gyesQ rfl rfl rfl ?_ | refine s_gnoQ rfl rfl rfl rfl rfl ?_ | ((first | refine s_splitQ_d rfl rfl (fun h => ?_) (fun h => ?_) | refine s_splitQ_n rfl rfl (fun h => ?_) (fun h => ?_)) <;> (try (first | contradiction | (exfalso; omega)))) | refine s_splitQ_nb rfl rfl (fun h => ?_) (fun h => ?_) | refine s_splitQ rfl rfl (fun h => ?_) (fun h => ?_))) | refine lQ_then ?_ | refine lQ_ends ?_ | (refine kE ?_; (first | refine e_then_r ?_ | refine e_block_r ?_ | refine e_then_n ?_ | refine e_then_x ?_ | refine e_block_n ?_ | refine e_block_x ?_ | refine e_block_y rfl ?_)) | refine l_ends ?_)
    all_goals
      exact s_leave1 rfl rfl (fun w hw => ⟨_, [], [], rfl, ⟨by rw [hke]; exact vint_to (by simp [surfsLen, sumTo]), OElems.nil, rfl⟩, hw.gone⟩)
  · rw [hTl] at hnc ⊢
    refine SYieldsG.mk (s_enterM Try.func42 rfl Try.ntmps42 rfl hH hn ?_)
    refine c_regroup (L' := [[(b0, srow (tcells eSurf ([] ++ T.drop 0) ++ r) 68)], tpiece ([] : List (ETri DSurf)), tpiece (T.drop 0), G]) (fun w hw => hw.perm (by rw [List.drop_zero, List.nil_append]; simp [tpiece])) ?_
    repeat' (first | exact rfl | (apply kO; (first | exact ov_pure rfl | (apply kOBin; (first | exact aBin | exact (ov_add rfl rfl (by have q1 := hkb j.1 (by omega); have q2 := hkb (j.1 + 1) (by omega); have q3 := hks j.1; omega)) | exact (ov_rem rfl rfl (by have q1 := hkb j.1 (by omega); omega)))) | (apply kOCall; (first | (apply kCallB; (first | exact aBlt | exact aLenR)))) | (apply kOLoad; (first | exact (ov_load rfl rfl (getL_flat (i := 0) rfl (List.mem_singleton.2 rfl)) (keepsD_get (by repeat' first | exact hkeep (by omega) | apply keepsD_set | omega) (by omega))) | exact aLdF | exact aLdR)) | exact ov_fieldAddr rfl | (apply kOIdx; (first | exact (ov_indexAddr rfl rfl (by omega)) | exact aIdx)) | exact aRest | exact aNew | exact (ov_field1 (ft := 25) rfl rfl rfl rfl))) | (refine kN ?_; (first | (refine kCall ?_; (first | (refine kWFn 45 ?_; (refine w_split 2 (A := (T.getD j.1 dT).2.2) (B := tpiece (T.drop (j.1 + 1))) (by show some (tpiece (T.drop j.1)) = _; rw [drop_getT (by omega), tpiece_cons]) ?_; refine s_markI _ (l := (l.getD j.1 default).buf.data) rfl (show OInts 3 (T.getD j.1 dT).2.1 (l.getD j.1 default).buf.data (T.getD j.1 dT).2.2 from hown (by omega)) gpA (by have q1 := hkb j.1 (by omega); have q2 := hkb (j.1 + 1) (by omega); have q3 := hks j.1; omega) rfl (fun H' hu => ?_))) | apply s_step)) | (refine kStore ?_; (first | (refine s_setR 0 rfl rfl rfl rfl (by (try simp only [List.length_set]); omega) ?_) | refine s_store1 _ rfl rfl gpA rfl (by rfl) ?_ | refine s_storeS _ rfl rfl gpA rfl rfl (by rfl) ?_ | refine s_storeS _ rfl rfl gpA rfl (ones_img oiA) (by rfl) ?_)) | refine s_boxS rfl rfl (fun b hb => ?_) | refine s_allocS rfl (fun b hb => ?_) | refine s_box1 rfl rfl rfl (fun b hb => ?_) | refine s_alloc1 rfl rfl (fun b hb => ?_) | refine s_buildSlice0 rfl (fun b hb => ?_) | refine s_buildSlice rfl rfl rfl rfl rfl (fun b hb => ?_) | apply s_step)) | (refine kG ?_; (first | refine s_gyes rfl rfl rfl ?_ | refine s_gno rfl rfl rfl rfl rfl ?_ | ((first | refine s_split_d rfl rfl (fun h => ?_) (fun h => ?_) | refine s_split_n rfl rfl (fun h => ?_) (fun h => ?_)) <;> (try (first | contradiction | (exfalso; omega)))) | refine s_split_nb rfl rfl (fun h => ?_) (fun h => ?_) | refine s_split rfl rfl (fun h => ?_) (fun h => ?_))) | refine l_then ?_ | (refine kC ?_; (first | (refine c_loopV (ι := Nat × List (ETri DSurf)) (fun j => j.1 ≤ l.length ∧ j.2.map (·.1) = (markSurfs l k).take j.1 ∧ (∀ t ∈ j.2, eSurf.own t.2.1 t.1 t.2.2)) (fun j => [(5, .int .i64 (j.1 : Int)), (1, .int .i64 (kAt l k j.1))]) (fun j => [[(b0, srow (tcells eSurf (j.2 ++ T.drop j.1) ++ r) 68)], tpiece j.2, tpiece (T.drop j.1), G]) (fun j => l.length - j.1) (0, []) ⟨by dsimp only; omega, by simp, fun t ht => by cases ht⟩ rfl (fun _ => rfl) ⟨rfl, slook_to rfl (vint_to (kAt_zero l k).symm), trivial⟩ (fun w hw => hw) (fun j hj => ?_); obtain ⟨hj1, hj2, hj3⟩ := hj; have hjl : j.2.length = j.1 := (by have := congrArg List.length hj2; rw [List.length_map, List.length_take, markSurfs_length] at this; omega); have hlen : (tcells eSurf (j.2 ++ T.drop j.1) ++ r).length = cap * 11 := (by rw [List.length_append, hcl] at hcap ⊢; rw [List.length_append, List.length_drop, hjl, hTl]; rw [hTl] at hcap; have e1 : j.1 + (l.length - j.1) = l.length := (by omega); rw [e1]; exact hcap); have hown := (fun (h : j.1 < T.length) => (show OInts 3 (T.getD j.1 dT).2.1 (l.getD j.1 default).buf.data (T.getD j.1 dT).2.2 from by have e := h2 _ (getT_mem h); have e2 := getT_fst (T := T) (j := j.1); rw [hT] at e2; rw [← e2]; exact e)); have hkeep := (fun (h : j.1 < T.length) => (show keepsD (j.1 * 11 + 10) (T.getD j.1 dT).2.1 (tcells eSurf (j.2 ++ T.drop j.1) ++ r) from by rw [drop_getT h, tcells_append, tcells_cons, List.append_assoc, List.append_assoc]; exact surf_cells_at (by rw [hcl, hjl]; rfl)))) | refine c_seq ?_ | refine c_regionN rfl ?_ | refine c_ret ?_ | (refine kCond ?_; (first | refine c_cond_t rfl ?_ | refine c_cond_f rfl ?_ | ((first | refine c_cond_d rfl (fun h => ?_) (fun h => ?_) | refine c_cond_n rfl (fun h => ?_) (fun h => ?_)) <;> (try (first | contradiction | (exfalso; omega)))) | refine c_cond_nb rfl (fun h => ?_) (fun h => ?_) | refine c_cond rfl (fun h => ?_) (fun h => ?_))) | refine c_block ?_ | refine c_skip ?_ | refine c_exit ?_ | refine c_regionQN rfl rfl (by decide +kernel) ?_)) | apply s_stepQ | (refine kQG ?_; (first | refine s_gyesQ rfl rfl rfl ?_ | refine s_gnoQ rfl rfl rfl rfl rfl ?_ | ((first | refine s_splitQ_d rfl rfl (fun h => ?_) (fun h => ?_) | refine s_splitQ_n rfl rfl (fun h => ?_) (fun h => ?_)) <;> (try (first | contradiction | (exfalso; omega)))) | refine s_splitQ_nb rfl rfl (fun h => ?_) (fun h => ?_) | refine s_splitQ rfl rfl (fun h => ?_) (fun h => ?_))) | refine lQ_then ?_ | refine lQ_ends ?_ | (refine kE ?_; (first | refine e_then_r ?_ | refine e_block_r ?_ | refine e_then_n ?_ | refine e_then_x ?_ | refine e_block_n ?_ | refine e_block_x ?_ | refine e_block_y rfl ?_)) | refine l_ends ?_)
    · have hjT : j.1 < T.length := by omega
      have e1 : (T.getD j.1 dT).1 = l.getD j.1 default := by rw [getT_fst, hT]
      have ecat : tcells eSurf (j.2 ++ T.drop j.1) ++ r = tcells eSurf j.2 ++ (.int .i64 (l.getD j.1 default).Id :: .int .i64 (l.getD j.1 default).X :: .int .i64 (l.getD j.1 default).Y :: .int .i64 (l.getD j.1 default).W :: .int .i64 (l.getD j.1 default).H :: .int .i64 (l.getD j.1 default).Alpha :: .int .i64 (l.getD j.1 default).Orient :: .bool (l.getD j.1 default).Visible :: .int .i64 (l.getD j.1 default).buf.W :: .int .i64 (l.getD j.1 default).buf.H :: ((T.getD j.1 dT).2.1 :: (tcells eSurf (T.drop (j.1 + 1)) ++ r))) := by
        rw [drop_getT hjT, tcells_append, tcells_cons, List.append_assoc, List.append_assoc, e1]; rfl
      have hp : (tcells eSurf j.2).length = j.1 * 11 := by rw [hcl, hjl]; rfl
      refine e_round (j.1 + 1, j.2 ++ [(markSurf (l.getD j.1 default) (kAt l k j.1), (T.getD j.1 dT).2.1, H')]) ⟨by dsimp only; omega, by dsimp only; rw [List.map_append, hj2, markSurfs_take l k (by omega)]; rfl, fun t ht => ?_⟩ ⟨slook_to rfl (vint_to (by push_cast; rfl)), slook_to rfl (vint_to (by rw [hks]; omega)), (by repeat' first | exact trivial | refine ⟨rfl, ?_⟩)⟩ (fun w hw => ?_) (by dsimp only; omega)
      · rcases List.mem_append.1 ht with ht | ht
        · exact hj3 t ht
        · rw [List.mem_singleton] at ht
          subst ht
          rw [show kAt l k j.1 + 1 + 1 + 1 + 1 + 1 + 1 + 1 + 1 + 1 + 1 = kAt l k j.1 + 10 by omega] at hu
          exact hu
      · have hw2 : SSt _ _ [[], tpiece (T.drop (j.1 + 1)), [(b0, srow _ 68)], tpiece j.2, H', G] w := hw
        rw [ecat] at hw2
        simp only [Nat.zero_add, Int.toNat_natCast, Nat.add_zero] at hw2
        rw [set10 hp, Int.tmod_eq_emod_of_nonneg (show 0 ≤ kAt l k j.1 + 1 + 1 + 1 + 1 + 1 + 1 + 1 by have := hkb j.1 hj1; omega)] at hw2
        have ecat2 : tcells eSurf ((j.2 ++ [(markSurf (l.getD j.1 default) (kAt l k j.1), (T.getD j.1 dT).2.1, H')]) ++ T.drop (j.1 + 1)) ++ r = tcells eSurf j.2 ++ (.int .i64 (kAt l k j.1) :: .int .i64 (kAt l k j.1 + 1) :: .int .i64 (kAt l k j.1 + 1 + 1) :: .int .i64 (kAt l k j.1 + 1 + 1 + 1) :: .int .i64 (kAt l k j.1 + 1 + 1 + 1 + 1) :: .int .i64 (kAt l k j.1 + 1 + 1 + 1 + 1 + 1) :: .int .i64 (kAt l k j.1 + 1 + 1 + 1 + 1 + 1 + 1) :: .bool (decide ((kAt l k j.1 + 1 + 1 + 1 + 1 + 1 + 1 + 1) % 3 = 0)) :: .int .i64 (kAt l k j.1 + 1 + 1 + 1 + 1 + 1 + 1 + 1 + 1) :: .int .i64 (kAt l k j.1 + 1 + 1 + 1 + 1 + 1 + 1 + 1 + 1 + 1) :: ((T.getD j.1 dT).2.1 :: (tcells eSurf (T.drop (j.1 + 1)) ++ r))) := by
          rw [tcells_append, tcells_append, tcells_one, List.append_assoc, List.append_assoc]
          simp only [Int.add_assoc]
          rfl
        dsimp only
        rw [ecat2, tpiece_append, tpiece_one]
        refine hw2.perm ?_
        simp only [List.flatten_cons, List.flatten_nil, List.append_nil, List.nil_append]
        refine (List.perm_append_comm_assoc ..).trans (List.Perm.append_left _ ?_)
        refine (List.perm_append_comm_assoc ..).trans ?_
        rw [List.append_assoc]
        refine List.Perm.append_left _ ?_
        exact List.perm_append_comm_assoc ..
    · have e : j.1 = l.length := by omega
      have hd0 : T.drop j.1 = [] := List.drop_of_length_le (by omega)
      rw [e, List.take_of_length_le (by rw [markSurfs_length]; omega)] at hj2
      rw [hd0, List.append_nil] at hlen
      refine s_leave1 rfl rfl (fun w hw => ⟨_, [(b0, srow (tcells eSurf j.2 ++ r) 68)] ++ (tpiece j.2 ++ G), [], rfl, ⟨by rw [e], ?_, rfl⟩, ?_⟩)
      · have o := OElems.ofTri (e := eSurf) (U := 68) (T := j.2) (G := G) (OVec.blk (k := 11) (T := 68) b0 j.2.length cap (tcells eSurf j.2) r (hcl _) hlen (by omega) hcm) hj3
        rw [hj2, hjl, e] at o
        exact o
      · have hw2 : SSt _ _ [[(b0, srow (tcells eSurf (j.2 ++ T.drop j.1) ++ r) 68)], tpiece j.2, tpiece (T.drop j.1), G] w := hw
        rw [hd0, List.append_nil] at hw2
        refine hw2.perm ?_
        simp [tpiece]
end Go.Proofs.Ytiainpcigdenaaa
namespace Sx

def DImg.at (i : DImg) (x y : Int) : Int := i.data.getD (y * i.W + x).toNat 0
def fimg (f : Int → Int → Int) (w h : Int) : DImg := ⟨w, h, mapTo f w (w * h).toNat⟩
def rawRect (s : DSurf) : DRect := ⟨s.X, s.Y, (surfSize s).1, (surfSize s).2⟩
theorem surfSize_pic {s : DSurf} (h : s.ok) : (pictureOf s).W = (surfSize s).1 ∧ (pictureOf s).H = (surfSize s).2 := by
  have hb := h.2.2.2.2.2.2
  have ho := h.2.2.2.2.2.1
  have hsz := h.2.2.2.1
  unfold DSurf.sized at hsz
  unfold pictureOf rawPicture surfSize
  rw [if_pos h]
  unfold fadedImg
  by_cases e : s.W ≠ 0
  · rw [if_pos e, if_pos e]
    unfold scaled
    rw [if_pos ⟨oriented_ok hb ho, by omega, by omega⟩]; exact ⟨rfl, rfl⟩
  · rw [if_neg e, if_neg e]
    unfold oriented
    rw [if_pos ⟨hb, ho⟩]; exact ⟨rfl, rfl⟩
theorem surfSize_bd {s : DSurf} (h : s.ok) : (1 ≤ (surfSize s).1 ∧ (surfSize s).1 ≤ 16) ∧ (1 ≤ (surfSize s).2 ∧ (surfSize s).2 ≤ 16) := by
  have h1 := pictureOf_ok h
  have h2 := surfSize_pic h
  rw [← h2.1, ← h2.2]; exact ⟨h1.1, h1.2.1⟩
theorem rawRect_ok {s : DSurf} (h : s.ok) : (rawRect s).ok := by
  have h1 := surfSize_bd h
  have h2 := h.2.1
  have h3 := h.2.2.1
  unfold rawRect DRect.ok; dsimp only; omega
theorem surfRect_vis {s : DSurf} (h : s.ok) (hv : s.Visible = true) : surfRect s = rawRect s := by unfold surfRect; rw [if_pos ⟨h, hv⟩]; rfl
theorem surfRect_ok (s : DSurf) : (surfRect s).ok := by
  by_cases h : s.ok ∧ s.Visible = true
  · rw [surfRect_vis h.1 h.2]; exact rawRect_ok h.1
  · unfold surfRect; rw [if_neg h]; unfold DRect.zero DRect.ok; dsimp only; omega
def pixOf (s : DSurf) (x y : Int) : Int := (pictureOf s).at (x - s.X) (y - s.Y)
def layer (s : DSurf) (x y b : Int) : Int := if (surfRect s).has x y then over (pixOf s x y) b else b
def layers (l : List DSurf) (x y b : Int) : Int := l.foldl (fun q s => layer s x y q) b
def paintF (s : DScene) (x y : Int) : Int := layers s.ss x y s.Back
def painted (s : DScene) : DImg := fimg (paintF s) s.W s.H
def paint (s : DScene) : DImg := if s.ok then painted s else DImg.zero
def paintAt (s : DScene) (x y : Int) : Int := if s.ok ∧ (0 ≤ x ∧ x ≤ s.W - 1) ∧ (0 ≤ y ∧ y ≤ s.H - 1) then paintF s x y else -1
def paintTo (s : DScene) (n : Nat) (x y : Int) : Int := layers (s.ss.take n) x y s.Back
def hitTo (s : DSurf) (k : Nat) (x y : Int) : Prop := (rawRect s).has x y ∧ (y - s.Y) * (surfSize s).1 + (x - s.X) < k
instance (s : DSurf) (k : Nat) (x y : Int) : Decidable (hitTo s k x y) := by unfold hitTo; infer_instance
def inG (g : Grid) (x y : Int) : Bool := g y.toNat x.toNat
def oneTo (s : DSurf) (g : Grid) (old : Int → Int → Int) (k : Nat) (x y : Int) : Int := if hitTo s k x y ∧ inG g x y = true then over (pixOf s x y) (old x y) else old x y
def kx (s : DSurf) (k : Nat) : Int := s.X + (k : Int) % (surfSize s).1
def ky (s : DSurf) (k : Nat) : Int := s.Y + (k : Int) / (surfSize s).1
end Sx
namespace Sx

structure DEdit where
  Kind : Int
  Id : Int
  A : Int
  B : Int
  buf : DImg
deriving DecidableEq
def DEdit.zero : DEdit := ⟨0, 0, 0, 0, DImg.zero⟩
instance : Inhabited DEdit := ⟨DEdit.zero⟩
theorem DEdit.eq {a b : DEdit} (h1 : a.Kind = b.Kind) (h2 : a.Id = b.Id) (h3 : a.A = b.A) (h4 : a.B = b.B) (h5 : a.buf = b.buf) : a = b := by cases a; cases b; simp_all
def added (e : DEdit) : DSurf := ⟨e.Id, e.A, e.B, 0, 0, 255, 0, true, e.buf⟩
def touched (x : DSurf) (e : DEdit) : DSurf :=
  if e.Kind = 2 then { x with X := e.A, Y := e.B }
  else if e.Kind = 5 then { x with buf := e.buf }
  else if e.Kind = 6 then { x with Alpha := e.A }
  else if e.Kind = 7 then { x with Orient := e.A }
  else if e.Kind = 8 then { x with W := e.A, H := e.B }
  else { x with Visible := decide (e.A = 1) }
def editK (l : List DSurf) (e : DEdit) (k : Nat) : List DSurf :=
  if e.Kind = 1 then l.eraseIdx k
  else if e.Kind = 3 then l.eraseIdx k ++ [l.getD k default]
  else if e.Kind = 4 then l.getD k default :: l.eraseIdx k
  else l.set k (touched (l.getD k default) e)
def editable (s : DScene) (e : DEdit) : Prop := e.Kind = 0 ∨ e.Kind = 10 ∨ ((1 ≤ e.Kind ∧ e.Kind ≤ 9) ∧ 0 ≤ surfaceIndex s.ss e.Id)
instance (s : DScene) (e : DEdit) : Decidable (editable s e) := by unfold editable; infer_instance
def edited (s : DScene) (e : DEdit) : DScene :=
  if e.Kind = 0 then { s with ss := s.ss ++ [added e] }
  else if e.Kind = 10 then { s with Back := e.A }
  else { s with ss := editK s.ss e (surfaceIndex s.ss e.Id).toNat }
def doEditOk (s : DScene) (e : DEdit) : Prop := s.ok ∧ editable s e ∧ (edited s e).ok
instance (s : DScene) (e : DEdit) : Decidable (doEditOk s e) := by unfold doEditOk; infer_instance
def doEdit (s : DScene) (e : DEdit) : DScene := if doEditOk s e then edited s e else s
def doEdits (s : DScene) (l : List DEdit) : DScene := l.foldl doEdit s
def editCount : DScene → List DEdit → Nat
  | _, [] => 0
  | s, e :: l => (if doEditOk s e then 1 else 0) + editCount (doEdit s e) l
theorem editCount_le : ∀ (s : DScene) (l : List DEdit), editCount s l ≤ l.length
  | _, [] => Nat.le_refl _
  | s, e :: l => by have := editCount_le (doEdit s e) l; simp only [editCount, List.length_cons]; split <;> omega
theorem doEdit_ok {s : DScene} (h : s.ok) (e : DEdit) : (doEdit s e).ok := by
  unfold doEdit; split
  · rename_i hh; exact hh.2.2
  · exact h
theorem doEdits_ok : ∀ {s : DScene} (l : List DEdit), s.ok → (doEdits s l).ok
  | s, [], h => h
  | s, e :: l, h => doEdits_ok (s := doEdit s e) l (doEdit_ok h e)
theorem doEdits_take {s : DScene} {l : List DEdit} {j : Nat} (h : j < l.length) : doEdits s (l.take (j + 1)) = doEdit (doEdits s (l.take j)) (l.getD j default) := by
  unfold doEdits
  rw [List.take_add_one, List.getElem?_eq_getElem h, List.foldl_append]
  simp [List.getD_eq_getElem?_getD, List.getElem?_eq_getElem h]
theorem editCount_append : ∀ (s : DScene) (k l : List DEdit), editCount s (k ++ l) = editCount s k + editCount (doEdits s k) l
  | s, [], l => by simp [editCount, doEdits]
  | s, e :: k, l => by
    have := editCount_append (doEdit s e) k l
    simp only [List.cons_append, editCount]
    rw [this]
    show _ = _ + editCount (doEdits (doEdit s e) k) l
    omega
theorem editCount_take {s : DScene} {l : List DEdit} {j : Nat} (h : j < l.length) : editCount s (l.take (j + 1)) = editCount s (l.take j) + (if doEditOk (doEdits s (l.take j)) (l.getD j default) then 1 else 0) := by
  rw [List.take_add_one, List.getElem?_eq_getElem h, editCount_append]
  simp [editCount, List.getD_eq_getElem?_getD, List.getElem?_eq_getElem h]

theorem mem_getD {l : List DSurf} {s : DSurf} : s ∈ l ↔ ∃ i, i < l.length ∧ l.getD i default = s := by
  rw [List.mem_iff_getElem]
  constructor
  · rintro ⟨i, hi, e⟩; exact ⟨i, hi, by rw [List.getD_eq_getElem?_getD, List.getElem?_eq_getElem hi]; exact e⟩
  · rintro ⟨i, hi, e⟩; exact ⟨i, hi, by rw [List.getD_eq_getElem?_getD, List.getElem?_eq_getElem hi] at e; exact e⟩
theorem surfaceIndex_at {l : List DSurf} (h : surfsOk l l.length) {i : Nat} (hi : i < l.length) : surfaceIndex l (l.getD i default).Id = i :=
  surfaceIndex_found hi (fun j hj => (h i hi).2 j hj) rfl
theorem index_same {l : List DSurf} (h : surfsOk l l.length) (s : DSurf) : s ∈ l ↔ 0 ≤ surfaceIndex l s.Id ∧ l.getD (surfaceIndex l s.Id).toNat default = s := by
  constructor
  · intro hs
    obtain ⟨i, hi, e⟩ := mem_getD.1 hs
    have := surfaceIndex_at h hi
    rw [e] at this
    rw [this]
    exact ⟨by omega, by simpa using e⟩
  · rintro ⟨h1, h2⟩
    rcases surfaceIndex_bd l s.Id with ⟨h3, _⟩ | ⟨j, h3, h4, _⟩
    · omega
    · rw [h3] at h2; exact mem_getD.2 ⟨j, h4, by simpa using h2⟩
def damP (a b : DScene) (x y : Int) : Prop :=
  (∃ s, s ∈ a.ss ∧ s ∉ b.ss ∧ (surfRect s).has x y) ∨ (∃ s, s ∈ b.ss ∧ s ∉ a.ss ∧ (surfRect s).has x y) ∨
  (∃ i k : Nat, k < i ∧ i < b.ss.length ∧ 0 ≤ surfaceIndex a.ss (b.ss.getD i default).Id ∧ surfaceIndex a.ss (b.ss.getD i default).Id < surfaceIndex a.ss (b.ss.getD k default).Id ∧ (surfRect (b.ss.getD i default)).has x y ∧ (surfRect (b.ss.getD k default)).has x y)
def seenAt (l : List DSurf) (x y : Int) : List DSurf := l.filter (fun s => decide ((surfRect s).has x y))
end Sx
