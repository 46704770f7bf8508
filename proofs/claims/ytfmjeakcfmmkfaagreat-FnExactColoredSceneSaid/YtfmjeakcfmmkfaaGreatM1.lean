/-
  The plain functions, continued: color, images, orientations, scaling, surfaces, scenes. No program in sight.
-/
import Derived.Test.YtfmjeakcfmmkfaaGreatMdl
set_option linter.unusedVariables false
namespace Sx

theorem getD_out {l : List Int} {i : Nat} (h : l.length ≤ i) : l.getD i 0 = 0 := by
  rw [List.getD_eq_getElem?_getD, List.getElem?_eq_none h]; rfl
/-! ### chapter 8: color -/
def mixRow (m : DColor) (row : Nat) (r g b : Int) : Int :=
  max 0 (min ((m.mat.getD (3 * row) 0 * r + m.mat.getD (3 * row + 1) 0 * g + m.mat.getD (3 * row + 2) 0 * b + 128) / 256) 255)
def byteP (x : Int) : Prop := 0 ≤ x ∧ x ≤ 255
instance (x : Int) : Decidable (byteP x) := by unfold byteP; infer_instance
def pixP (x : Int) : Prop := 0 ≤ x ∧ x ≤ 4294967295
instance (x : Int) : Decidable (pixP x) := by unfold pixP; infer_instance
def mixChannels (m : DColor) (row r g b : Int) : Int := if m.ok ∧ (0 ≤ row ∧ row ≤ 2) ∧ byteP r ∧ byteP g ∧ byteP b then mixRow m row.toNat r g b else -1
def curveVal (m : DColor) (v : Int) : Int :=
  min 255 (m.curve.getD (v / 16).toNat 0 + ((m.curve.getD ((v / 16).toNat + 1) 0 - m.curve.getD (v / 16).toNat 0) * (v % 16)) / 16)
def curveAt (m : DColor) (v : Int) : Int := if m.ok ∧ byteP v then curveVal m v else -1
theorem mixRow_bd (m : DColor) (row : Nat) (r g b : Int) : 0 ≤ mixRow m row r g b ∧ mixRow m row r g b ≤ 255 := by unfold mixRow; omega
theorem DColor.ok.mat {m : DColor} (h : m.ok) (i : Nat) : -1024 ≤ m.mat.getD i 0 ∧ m.mat.getD i 0 ≤ 1024 := by
  by_cases hi : i < m.mat.length
  · exact h.2.2.1 i hi
  · rw [getD_out (by omega)]; omega
theorem DColor.ok.curve {m : DColor} (h : m.ok) (i : Nat) : 0 ≤ m.curve.getD i 0 ∧ m.curve.getD i 0 ≤ 256 := by
  by_cases hi : i < m.curve.length
  · exact h.2.2.2 i hi
  · rw [getD_out (by omega)]; omega
theorem mul_sbd {a b A B : Int} (ha : -A ≤ a ∧ a ≤ A) (hb : 0 ≤ b ∧ b ≤ B) : -(A * B) ≤ a * b ∧ a * b ≤ A * B := by
  have hA : 0 ≤ A := by omega
  constructor
  · have h1 : -(A * b) ≤ a * b := by
      rw [← Int.neg_mul]; exact Int.mul_le_mul_of_nonneg_right ha.1 hb.1
    have h2 : A * b ≤ A * B := Int.mul_le_mul_of_nonneg_left hb.2 hA
    omega
  · have h1 : a * b ≤ A * b := Int.mul_le_mul_of_nonneg_right ha.2 hb.1
    have h2 : A * b ≤ A * B := Int.mul_le_mul_of_nonneg_left hb.2 hA
    omega
theorem curveVal_bd {m : DColor} (h : m.ok) (v : Int) : 0 ≤ curveVal m v ∧ curveVal m v ≤ 255 := by
  have ha := h.curve (v / 16).toNat
  have hb := h.curve ((v / 16).toNat + 1)
  unfold curveVal
  generalize m.curve.getD (v / 16).toNat 0 = a at *
  generalize m.curve.getD ((v / 16).toNat + 1) 0 = b at *
  have ht : 0 ≤ v % 16 ∧ v % 16 ≤ 15 := by omega
  generalize v % 16 = t at *
  have h1 : -(16 * a) ≤ (b - a) * t := by
    have e : (b - a) * t = b * t - a * t := Int.sub_mul ..
    have h2 : 0 ≤ b * t := Int.mul_nonneg hb.1 ht.1
    have h3 : a * t ≤ a * 16 := Int.mul_le_mul_of_nonneg_left (by omega) ha.1
    omega
  omega
def colored (m : DColor) (p : Int) : Int :=
  ((chan p 0 * 256 + curveVal m (mixRow m 0 (chan p 1) (chan p 2) (chan p 3))) * 256 + curveVal m (mixRow m 1 (chan p 1) (chan p 2) (chan p 3))) * 256 + curveVal m (mixRow m 2 (chan p 1) (chan p 2) (chan p 3))
def colorPixel (m : DColor) (p : Int) : Int := if m.ok ∧ pixP p then colored m p else -1
/-- the first k rows -/
def coloredTo (m : DColor) (p : Int) : Nat → Int
  | 0 => chan p 0
  | k + 1 => coloredTo m p k * 256 + curveVal m (mixRow m k (chan p 1) (chan p 2) (chan p 3))
theorem coloredTo_three (m : DColor) (p : Int) : coloredTo m p 3 = colored m p := rfl
theorem coloredTo_bd {m : DColor} (h : m.ok) (p : Int) (k : Nat) (hk : k ≤ 3) : 0 ≤ coloredTo m p k ∧ coloredTo m p k ≤ 256 ^ (k + 1) - 1 := by
  match k, hk with
  | 0, _ => have := chan_bd p 0; simp [coloredTo]; omega
  | 1, _ => have := chan_bd p 0; have := curveVal_bd h (mixRow m 0 (chan p 1) (chan p 2) (chan p 3)); simp [coloredTo]; omega
  | 2, _ => have := chan_bd p 0; have := curveVal_bd h (mixRow m 0 (chan p 1) (chan p 2) (chan p 3)); have := curveVal_bd h (mixRow m 1 (chan p 1) (chan p 2) (chan p 3)); simp [coloredTo]; omega
  | 3, _ => have := chan_bd p 0; have := curveVal_bd h (mixRow m 0 (chan p 1) (chan p 2) (chan p 3)); have := curveVal_bd h (mixRow m 1 (chan p 1) (chan p 2) (chan p 3)); have := curveVal_bd h (mixRow m 2 (chan p 1) (chan p 2) (chan p 3)); simp [coloredTo]; omega
theorem coloredTo_pix {m : DColor} (h : m.ok) (p : Int) (k : Nat) (hk : k ≤ 3) : 0 ≤ coloredTo m p k ∧ coloredTo m p k ≤ 4294967295 := by
  have := coloredTo_bd h p k hk
  match k, hk, this with
  | 0, _, h => omega
  | 1, _, h => omega
  | 2, _, h => omega
  | 3, _, h => omega
theorem coloredTo_small {m : DColor} (h : m.ok) (p : Int) (k : Nat) (hk : k < 3) : 0 ≤ coloredTo m p k ∧ coloredTo m p k ≤ 16777215 := by
  have := coloredTo_bd h p k (by omega)
  match k, hk, this with
  | 0, _, h => omega
  | 1, _, h => omega
  | 2, _, h => omega
theorem colored_bd {m : DColor} (h : m.ok) (p : Int) : 0 ≤ colored m p ∧ colored m p ≤ 4294967295 := by
  have := coloredTo_bd h p 3 (by omega)
  rw [coloredTo_three] at this; omega

/-! ### chapter 5: images -/
structure DImg where
  W : Int
  H : Int
  data : List Int
deriving DecidableEq
theorem DImg.eq {a b : DImg} (h1 : a.W = b.W) (h2 : a.H = b.H) (h3 : a.data = b.data) : a = b := by cases a; cases b; simp_all
def DImg.zero : DImg := ⟨0, 0, []⟩
def DImg.ok (i : DImg) : Prop := (1 ≤ i.W ∧ i.W ≤ 16) ∧ (1 ≤ i.H ∧ i.H ≤ 16) ∧ (i.data.length : Int) = i.W * i.H ∧ inR 0 4294967295 i.data
instance (i : DImg) : Decidable i.ok := by unfold DImg.ok; infer_instance
theorem DImg.ok.len {i : DImg} (h : i.ok) : 1 ≤ i.data.length ∧ i.data.length ≤ 256 := by
  have := side_mul (w := i.W) (h := i.H) ⟨h.1.1, h.1.2, h.2.1.1, h.2.1.2⟩
  have := h.2.2.1
  omega
theorem inR_getD {lo hi : Int} {l : List Int} (h : inR lo hi l) (h0 : lo ≤ 0 ∧ 0 ≤ hi) (i : Nat) : lo ≤ l.getD i 0 ∧ l.getD i 0 ≤ hi := by
  by_cases hi : i < l.length
  · exact h i hi
  · rw [getD_out (by omega)]; exact h0
theorem DImg.ok.pix {i : DImg} (h : i.ok) (k : Nat) : 0 ≤ i.data.getD k 0 ∧ i.data.getD k 0 ≤ 4294967295 := inR_getD h.2.2.2 (by omega) k
def newImage (w h p : Int) : DImg := if (1 ≤ w ∧ w ≤ 16) ∧ (1 ≤ h ∧ h ≤ 16) ∧ pixP p then ⟨w, h, List.replicate (w * h).toNat p⟩ else DImg.zero
def colorImage (m : DColor) (i : DImg) : DImg := if m.ok ∧ i.ok then ⟨i.W, i.H, i.data.map (colored m)⟩ else DImg.zero
def ditherImage (i : DImg) : List Int := if i.ok then (List.range i.data.length).map (fun k : Nat => ditherPixel (i.data.getD k 0) ((k : Int) % i.W) ((k : Int) / i.W)) else []

/-- the first n dots of a picture that a function gives, row by row -/
def mapTo (f : Int → Int → Int) (w : Int) (n : Nat) : List Int := (List.range n).map (fun q : Nat => f ((q : Int) % w) ((q : Int) / w))
theorem mapTo_zero (f : Int → Int → Int) (w : Int) : mapTo f w 0 = [] := rfl
theorem mapTo_length (f : Int → Int → Int) (w : Int) (n : Nat) : (mapTo f w n).length = n := by simp [mapTo]
theorem mapTo_succ (f : Int → Int → Int) (w : Int) (n : Nat) : mapTo f w (n + 1) = mapTo f w n ++ [f ((n : Int) % w) ((n : Int) / w)] := by simp [mapTo, List.range_succ]
theorem row_mod {w x y : Int} (hx : 0 ≤ x ∧ x < w) (hy : 0 ≤ y) : (y * w + x) % w = x ∧ (y * w + x) / w = y := by
  have hw : w ≠ 0 := by omega
  constructor
  · rw [Int.add_comm, Int.add_mul_emod_self_right]; exact Int.emod_eq_of_lt hx.1 hx.2
  · rw [Int.add_comm, Int.add_mul_ediv_right _ _ hw, Int.ediv_eq_zero_of_lt hx.1 hx.2]; omega
/-! ### chapter 6: orientations -/
def orientPt (w h o x y : Int) : Int × Int :=
  let x0 := if 4 ≤ o then w - 1 - x else x
  if o % 4 = 0 then (x0, y) else if o % 4 = 1 then (h - 1 - y, x0) else if o % 4 = 2 then (w - 1 - x0, h - 1 - y) else (y, w - 1 - x0)
def orientOk (w h o : Int) : Prop := (1 ≤ w ∧ w ≤ 16) ∧ (1 ≤ h ∧ h ≤ 16) ∧ (0 ≤ o ∧ o ≤ 7)
instance (w h o : Int) : Decidable (orientOk w h o) := by unfold orientOk; infer_instance
def orientPoint (w h o x y : Int) : Int × Int := if orientOk w h o ∧ (0 ≤ x ∧ x ≤ w - 1) ∧ (0 ≤ y ∧ y ≤ h - 1) then orientPt w h o x y else (-1, -1)
def orientSize (w h o : Int) : Int × Int := if orientOk w h o then (if o % 2 = 1 then (h, w) else (w, h)) else (0, 0)
/-- the picture's dots behind the first k pixels -/
def ofill (i : DImg) (o : Int) : Nat → List Int
  | 0 => List.replicate (i.W * i.H).toNat 0
  | k + 1 =>
    let q := orientPt i.W i.H o ((k : Int) % i.W) ((k : Int) / i.W)
    (ofill i o k).set (q.2 * (if o % 2 = 1 then i.H else i.W) + q.1).toNat (i.data.getD k 0)
theorem ofill_length (i : DImg) (o : Int) : ∀ k, (ofill i o k).length = (i.W * i.H).toNat
  | 0 => by simp [ofill]
  | k + 1 => by simp [ofill, ofill_length i o k]
theorem inR_set {lo hi : Int} {l : List Int} (h : inR lo hi l) {v : Int} (hv : lo ≤ v ∧ v ≤ hi) (k : Nat) : inR lo hi (l.set k v) := fun j hj => by
  rw [List.length_set] at hj
  rw [List.getD_eq_getElem?_getD, List.getElem?_set]
  split
  · split
    · simpa using hv
    · omega
  · have := h j hj
    rwa [List.getD_eq_getElem?_getD] at this
theorem inR_replicate {lo hi v : Int} (n : Nat) (hv : lo ≤ v ∧ v ≤ hi) : inR lo hi (List.replicate n v) := fun j hj => by
  rw [List.length_replicate] at hj
  rw [List.getD_eq_getElem?_getD, List.getElem?_replicate, if_pos hj]; simpa using hv
theorem ofill_pix {i : DImg} (h : i.ok) (o : Int) : ∀ k, inR 0 4294967295 (ofill i o k)
  | 0 => inR_replicate _ (by omega)
  | k + 1 => inR_set (ofill_pix h o k) (h.pix k) _
def oriented (i : DImg) (o : Int) : DImg :=
  if i.ok ∧ (0 ≤ o ∧ o ≤ 7) then ⟨(orientSize i.W i.H o).1, (orientSize i.W i.H o).2, ofill i o i.data.length⟩ else DImg.zero
theorem orientPt_bd {w h o x y : Int} (ho : orientOk w h o) (hx : 0 ≤ x ∧ x ≤ w - 1) (hy : 0 ≤ y ∧ y ≤ h - 1) :
    0 ≤ (orientPt w h o x y).1 ∧ (orientPt w h o x y).1 ≤ (if o % 2 = 1 then h else w) - 1 ∧ 0 ≤ (orientPt w h o x y).2 ∧ (orientPt w h o x y).2 ≤ (if o % 2 = 1 then w else h) - 1 := by
  unfold orientOk at ho
  unfold orientPt
  dsimp only
  by_cases h4 : 4 ≤ o
  · simp only [if_pos h4]
    (repeat' split) <;> dsimp only <;> omega
  · simp only [if_neg h4]
    (repeat' split) <;> dsimp only <;> omega
theorem oriented_ok {i : DImg} {o : Int} (h : i.ok) (ho : 0 ≤ o ∧ o ≤ 7) : (oriented i o).ok := by
  have hok : orientOk i.W i.H o := ⟨h.1, h.2.1, ho⟩
  have hsz := side_mul (w := i.W) (h := i.H) ⟨h.1.1, h.1.2, h.2.1.1, h.2.1.2⟩
  unfold oriented
  rw [if_pos ⟨h, ho⟩]
  unfold orientSize
  rw [if_pos hok]
  have hl := ofill_length i o i.data.length
  have h1 := h.1
  have h2 := h.2.1
  split
  · exact ⟨h2, h1, by dsimp only; rw [hl, Int.mul_comm i.H]; omega, ofill_pix h o _⟩
  · exact ⟨h1, h2, by dsimp only; rw [hl]; omega, ofill_pix h o _⟩

/-! what the turns make of a place -/
def oX (w h x y : Int) : Nat → Int
  | 0 => x
  | 1 => h - 1 - y
  | 2 => w - 1 - x
  | _ => y
def oY (w h x y : Int) : Nat → Int
  | 0 => y
  | 1 => x
  | 2 => h - 1 - y
  | _ => w - 1 - x
def oW (w h : Int) : Nat → Int
  | 0 => w
  | 1 => h
  | 2 => w
  | _ => h
theorem o_next (w h x y : Int) (k : Nat) (hk : k < 3) : oX w h x y (k + 1) = oW h w k - 1 - oY w h x y k ∧ oY w h x y (k + 1) = oX w h x y k ∧ oW w h (k + 1) = oW h w k ∧ oW h w (k + 1) = oW w h k := by
  match k, hk with
  | 0, _ => simp [oX, oY, oW]
  | 1, _ => simp [oX, oY, oW]
  | 2, _ => simp [oX, oY, oW]; omega
theorem o_bd {w h x y : Int} (hw : 1 ≤ w ∧ w ≤ 16) (hh : 1 ≤ h ∧ h ≤ 16) (hx : 0 ≤ x ∧ x ≤ w - 1) (hy : 0 ≤ y ∧ y ≤ h - 1) (k : Nat) :
    (0 ≤ oX w h x y k ∧ oX w h x y k ≤ 15) ∧ (0 ≤ oY w h x y k ∧ oY w h x y k ≤ 15) ∧ (1 ≤ oW w h k ∧ oW w h k ≤ 16) ∧ (1 ≤ oW h w k ∧ oW h w k ≤ 16) := by
  match k with
  | 0 => simp only [oX, oY, oW]; omega
  | 1 => simp only [oX, oY, oW]; omega
  | 2 => simp only [oX, oY, oW]; omega
  | k + 3 => simp only [oX, oY, oW]; omega
theorem orientPt_turns {w h o x y : Int} (ho : 0 ≤ o ∧ o ≤ 7) : orientPt w h o x y = (oX w h (if 4 ≤ o then w - 1 - x else x) y (o % 4).toNat, oY w h (if 4 ≤ o then w - 1 - x else x) y (o % 4).toNat) := by
  have hr : o % 4 = 0 ∨ o % 4 = 1 ∨ o % 4 = 2 ∨ o % 4 = 3 := by omega
  unfold orientPt
  dsimp only
  rcases hr with e | e | e | e
  · rw [e, if_pos rfl]; rfl
  · rw [e, if_neg (by omega), if_pos rfl]; rfl
  · rw [e, if_neg (by omega), if_neg (by omega), if_pos rfl]; rfl
  · rw [e, if_neg (by omega), if_neg (by omega), if_neg (by omega)]; rfl
/-! ### chapter 7: scaling -/
def scalePoint (f t k : Int) : Int := if (1 ≤ f ∧ f ≤ 16) ∧ (1 ≤ t ∧ t ≤ 16) ∧ (0 ≤ k ∧ k ≤ t - 1) then k * f / t else -1
def scaleAt (i : DImg) (w h x y : Int) : Int := i.data.getD ((y * i.H / h) * i.W + x * i.W / w).toNat 0
def scaled (i : DImg) (w h : Int) : DImg :=
  if i.ok ∧ (1 ≤ w ∧ w ≤ 16) ∧ (1 ≤ h ∧ h ≤ 16) then ⟨w, h, (List.range (w * h).toNat).map (fun q : Nat => scaleAt i w h ((q : Int) % w) ((q : Int) / w))⟩ else DImg.zero
theorem inR_map_range {lo hi : Int} {f : Nat → Int} {n : Nat} (h : ∀ k, k < n → lo ≤ f k ∧ f k ≤ hi) : inR lo hi ((List.range n).map f) := fun j hj => by
  rw [List.length_map, List.length_range] at hj
  rw [List.getD_eq_getElem?_getD, List.getElem?_map, List.getElem?_range hj]
  exact h j hj
theorem scaled_ok {i : DImg} {w h : Int} (hi : i.ok) (hw : 1 ≤ w ∧ w ≤ 16) (hh : 1 ≤ h ∧ h ≤ 16) : (scaled i w h).ok := by
  have hsz := side_mul (w := w) (h := h) ⟨hw.1, hw.2, hh.1, hh.2⟩
  unfold scaled
  rw [if_pos ⟨hi, hw, hh⟩]
  refine ⟨hw, hh, ?_, inR_map_range fun k _ => hi.pix _⟩
  dsimp only
  rw [List.length_map, List.length_range]; omega

/-! ### chapter 4: pixels -/
def prt (a b : Int) : Int := if byteP a ∧ byteP b then (a * b + 127) / 255 else -1
theorem prt_bd {a b : Int} (ha : byteP a) (hb : byteP b) : prt a b = (a * b + 127) / 255 ∧ 0 ≤ prt a b ∧ prt a b ≤ b := by
  unfold prt
  rw [if_pos ⟨ha, hb⟩]
  unfold byteP at ha hb
  have h1 : 0 ≤ a * b := Int.mul_nonneg ha.1 hb.1
  have h2 : a * b ≤ 255 * b := Int.mul_le_mul_of_nonneg_right ha.2 hb.1
  omega
def fade (p a : Int) : Int := if pixP p ∧ byteP a then prt (chan p 0) a * 16777216 + p % 16777216 else -1
def over (t b : Int) : Int :=
  if pixP t ∧ pixP b then
    ((255 * 256 + (prt (chan t 1) (chan t 0) + prt (chan b 1) (255 - chan t 0))) * 256 + (prt (chan t 2) (chan t 0) + prt (chan b 2) (255 - chan t 0))) * 256 + (prt (chan t 3) (chan t 0) + prt (chan b 3) (255 - chan t 0))
  else -1
theorem fade_bd {p a : Int} (hp : pixP p) (ha : byteP a) : 0 ≤ fade p a ∧ fade p a ≤ 4294967295 := by
  have h := prt_bd (chan_bd p 0) ha
  unfold fade
  rw [if_pos ⟨hp, ha⟩]
  unfold byteP at ha
  omega
theorem over_bd {t b : Int} (ht : pixP t) (hb : pixP b) : 4278190080 ≤ over t b ∧ over t b ≤ 4294967295 := by
  have h255 : byteP (255 - chan t 0) := by have := chan_bd t 0; unfold byteP; omega
  have h1 := fun k => prt_bd (chan_bd t k) (chan_bd t 0)
  have h2 := fun k => prt_bd (chan_bd b k) h255
  have a1 := h1 1; have a2 := h1 2; have a3 := h1 3
  have b1 := h2 1; have b2 := h2 2; have b3 := h2 3
  have h0 := chan_bd t 0
  unfold over
  rw [if_pos ⟨ht, hb⟩]
  omega

/-! ### chapter 2: rectangles -/
structure DRect where
  X : Int
  Y : Int
  W : Int
  H : Int
deriving DecidableEq
def DRect.zero : DRect := ⟨0, 0, 0, 0⟩
def DRect.ok (r : DRect) : Prop := (-1000 ≤ r.X ∧ r.X ≤ 1000) ∧ (-1000 ≤ r.Y ∧ r.Y ≤ 1000) ∧ (0 ≤ r.W ∧ r.W ≤ 1000) ∧ (0 ≤ r.H ∧ r.H ≤ 1000)
instance (r : DRect) : Decidable r.ok := by unfold DRect.ok; infer_instance
def DRect.inter (a b : DRect) : DRect :=
  if a.ok ∧ b.ok then
    (if min (a.X + a.W) (b.X + b.W) - max a.X b.X ≤ 0 ∨ min (a.Y + a.H) (b.Y + b.H) - max a.Y b.Y ≤ 0 then DRect.zero
     else ⟨max a.X b.X, max a.Y b.Y, min (a.X + a.W) (b.X + b.W) - max a.X b.X, min (a.Y + a.H) (b.Y + b.H) - max a.Y b.Y⟩)
  else DRect.zero
theorem DRect.inter_ok {a b : DRect} (ha : a.ok) (hb : b.ok) : (a.inter b).ok ∧ (a.inter b).W ≤ b.W ∧ (a.inter b).H ≤ b.H ∧ (a.inter b).W ≤ a.W ∧ (a.inter b).H ≤ a.H := by
  unfold DRect.inter
  rw [if_pos ⟨ha, hb⟩]
  unfold DRect.ok at *
  split
  · dsimp only [DRect.zero]; omega
  · dsimp only; omega
theorem DRect.inter_bd (a : DRect) {b : DRect} (hb : b.ok) : (0 ≤ (a.inter b).W ∧ (a.inter b).W ≤ b.W) ∧ (0 ≤ (a.inter b).H ∧ (a.inter b).H ≤ b.H) := by
  by_cases ha : a.ok
  · have := DRect.inter_ok ha hb
    unfold DRect.ok at this
    omega
  · unfold DRect.inter
    rw [if_neg (fun h => ha h.1)]
    unfold DRect.ok at hb
    dsimp only [DRect.zero]; omega
def DRect.has (r : DRect) (x y : Int) : Prop := r.ok ∧ r.X ≤ x ∧ x < r.X + r.W ∧ r.Y ≤ y ∧ y < r.Y + r.H
instance (r : DRect) (x y : Int) : Decidable (r.has x y) := by unfold DRect.has; infer_instance

/-! ### chapter 10: surfaces, scenes -/
structure DSurf where
  Id : Int
  X : Int
  Y : Int
  W : Int
  H : Int
  Alpha : Int
  Orient : Int
  Visible : Bool
  buf : DImg
deriving DecidableEq
theorem DSurf.eq {a b : DSurf} (h1 : a.Id = b.Id) (h2 : a.X = b.X) (h3 : a.Y = b.Y) (h4 : a.W = b.W) (h5 : a.H = b.H) (h6 : a.Alpha = b.Alpha) (h7 : a.Orient = b.Orient) (h8 : a.Visible = b.Visible) (h9 : a.buf = b.buf) : a = b := by cases a; cases b; simp_all
def DSurf.zero : DSurf := ⟨0, 0, 0, 0, 0, 0, 0, false, DImg.zero⟩
instance : Inhabited DSurf := ⟨DSurf.zero⟩
def DSurf.sized (s : DSurf) : Prop := (1 ≤ s.W ∧ s.W ≤ 16) ∧ (1 ≤ s.H ∧ s.H ≤ 16) ∨ s.W = 0 ∧ s.H = 0
instance (s : DSurf) : Decidable s.sized := by unfold DSurf.sized; infer_instance
def DSurf.ok (s : DSurf) : Prop := (1 ≤ s.Id ∧ s.Id ≤ 99) ∧ (-32 ≤ s.X ∧ s.X ≤ 32) ∧ (-32 ≤ s.Y ∧ s.Y ≤ 32) ∧ s.sized ∧ byteP s.Alpha ∧ (0 ≤ s.Orient ∧ s.Orient ≤ 7) ∧ s.buf.ok
instance (s : DSurf) : Decidable s.ok := by unfold DSurf.ok; infer_instance
structure DScene where
  W : Int
  H : Int
  Back : Int
  ss : List DSurf
deriving DecidableEq
theorem opaque_iff (p : Int) : 0 ≤ p ∧ p ≤ 4294967295 ∧ (p / 2 ^ (24 - 8 * (0 : Int)).toNat) % 2 ^ 8 = 255 ↔ 4278190080 ≤ p ∧ p ≤ 4294967295 := by
  have : (24 - 8 * (0 : Int)).toNat = 24 := rfl
  rw [this]; omega
theorem DScene.eq {a b : DScene} (h1 : a.W = b.W) (h2 : a.H = b.H) (h3 : a.Back = b.Back) (h4 : a.ss = b.ss) : a = b := by cases a; cases b; simp_all
def opaqueP (p : Int) : Prop := pixP p ∧ chan p 0 = 255
instance (p : Int) : Decidable (opaqueP p) := by unfold opaqueP; infer_instance
theorem opaqueP_iff (p : Int) : opaqueP p ↔ 4278190080 ≤ p ∧ p ≤ 4294967295 := by
  rw [← opaque_iff]; unfold opaqueP pixP chan; constructor <;> (intro h; omega)
def surfsOk (l : List DSurf) (n : Nat) : Prop := ∀ i, i < n → (l.getD i default).ok ∧ ∀ j, j < i → (l.getD j default).Id ≠ (l.getD i default).Id
instance (l : List DSurf) (n : Nat) : Decidable (surfsOk l n) := inferInstanceAs (Decidable (∀ i, i < n → _))
def DScene.ok (s : DScene) : Prop := (1 ≤ s.W ∧ s.W ≤ 16) ∧ (1 ≤ s.H ∧ s.H ≤ 16) ∧ opaqueP s.Back ∧ s.ss.length ≤ 6 ∧ surfsOk s.ss s.ss.length
instance (s : DScene) : Decidable s.ok := by unfold DScene.ok; infer_instance
/-- the first one with this Id, from place k on -/
def surfIdx (l : List DSurf) (id : Int) : Nat → Nat → Int
  | 0, _ => -1
  | f + 1, k => if k < l.length then (if (l.getD k default).Id = id then (k : Int) else surfIdx l id f (k + 1)) else -1
def surfaceIndex (l : List DSurf) (id : Int) : Int := surfIdx l id l.length 0
theorem surfIdx_found {l : List DSurf} {id : Int} : ∀ (f k j : Nat), k ≤ j → j < l.length → j - k < f → (∀ i, k ≤ i → i < j → (l.getD i default).Id ≠ id) → (l.getD j default).Id = id → surfIdx l id f k = j
  | 0, k, j, _, _, h, _, _ => by omega
  | f + 1, k, j, h1, h2, h3, h4, h5 => by
    unfold surfIdx
    rw [if_pos (by omega)]
    by_cases e : k = j
    · subst e; rw [if_pos h5]
    · rw [if_neg (h4 k (Nat.le_refl _) (by omega))]
      exact surfIdx_found f (k + 1) j (by omega) h2 (by omega) (fun i hi => h4 i (by omega)) h5
theorem surfIdx_none {l : List DSurf} {id : Int} : ∀ (f k : Nat), (∀ i, k ≤ i → i < l.length → (l.getD i default).Id ≠ id) → surfIdx l id f k = -1
  | 0, k, _ => rfl
  | f + 1, k, h => by
    unfold surfIdx
    split
    · rw [if_neg (h k (Nat.le_refl _) (by assumption))]
      exact surfIdx_none f (k + 1) (fun i hi => h i (by omega))
    · rfl
theorem surfaceIndex_found {l : List DSurf} {id : Int} {j : Nat} (hj : j < l.length) (h : ∀ i, i < j → (l.getD i default).Id ≠ id) (he : (l.getD j default).Id = id) : surfaceIndex l id = j :=
  surfIdx_found _ 0 j (by omega) hj (by omega) (fun i _ => h i) he
theorem surfaceIndex_none {l : List DSurf} {id : Int} (h : ∀ i, i < l.length → (l.getD i default).Id ≠ id) : surfaceIndex l id = -1 := surfIdx_none _ 0 (fun i _ => h i)
theorem first_or {p : Nat → Prop} [DecidablePred p] : ∀ n, (∀ i, i < n → ¬ p i) ∨ ∃ j, j < n ∧ p j ∧ ∀ i, i < j → ¬ p i
  | 0 => .inl (fun i hi => by omega)
  | n + 1 => by
    rcases first_or (p := p) n with h | ⟨j, h1, h2, h3⟩
    · by_cases hp : p n
      · exact .inr ⟨n, by omega, hp, h⟩
      · exact .inl (fun i hi => by
          by_cases e : i = n
          · subst e; exact hp
          · exact h i (by omega))
    · exact .inr ⟨j, by omega, h2, h3⟩
theorem surfaceIndex_bd (l : List DSurf) (id : Int) : surfaceIndex l id = -1 ∧ (∀ i, i < l.length → (l.getD i default).Id ≠ id) ∨ ∃ j : Nat, surfaceIndex l id = j ∧ j < l.length ∧ (l.getD j default).Id = id ∧ ∀ i, i < j → (l.getD i default).Id ≠ id := by
  rcases first_or (p := fun i => (l.getD i default).Id = id) l.length with h | ⟨j, h1, h2, h3⟩
  · exact .inl ⟨surfaceIndex_none h, h⟩
  · exact .inr ⟨j, surfaceIndex_found h1 h3 h2, h1, h2, h3⟩
theorem surfaceIndex_self {l : List DSurf} {k : Nat} (hk : k < l.length) : surfaceIndex l (l.getD k default).Id = k ↔ ∀ i, i < k → (l.getD i default).Id ≠ (l.getD k default).Id := by
  constructor
  · intro h
    rcases surfaceIndex_bd l (l.getD k default).Id with ⟨h1, _⟩ | ⟨j, h1, h2, h3, h4⟩
    · omega
    · have : j = k := by omega
      subst this; exact h4
  · intro h; exact surfaceIndex_found hk h rfl
theorem surfsOk_zero (l : List DSurf) : surfsOk l 0 := fun i hi => by omega
theorem surfsOk_next {l : List DSurf} {j : Nat} (h : surfsOk l j) (h1 : (l.getD j default).ok) (h2 : ∀ i, i < j → (l.getD i default).Id ≠ (l.getD j default).Id) : surfsOk l (j + 1) := fun i hi => by
  by_cases e : i = j
  · subst e; exact ⟨h1, h2⟩
  · exact h i (by omega)
def idsTo (l : List DSurf) (j : Nat) : List Int := (List.range j).map (fun i => (l.getD i default).Id)
theorem idsTo_zero (l : List DSurf) : idsTo l 0 = [] := rfl
theorem idsTo_succ (l : List DSurf) (j : Nat) : idsTo l (j + 1) = idsTo l j ++ [(l.getD j default).Id] := by simp [idsTo, List.range_succ]
theorem mem_idsTo {l : List DSurf} {j : Nat} {x : Int} : x ∈ idsTo l j ↔ ∃ i, i < j ∧ (l.getD i default).Id = x := by simp [idsTo]
def fadedImg (i : DImg) (a : Int) : DImg := ⟨i.W, i.H, i.data.map (fun p => fade p a)⟩
def rawPicture (s : DSurf) : DImg := if s.W ≠ 0 then scaled (oriented s.buf s.Orient) s.W s.H else oriented s.buf s.Orient
def pictureOf (s : DSurf) : DImg := if s.ok then fadedImg (rawPicture s) s.Alpha else DImg.zero
def surfSize (s : DSurf) : Int × Int := if s.W ≠ 0 then (s.W, s.H) else orientSize s.buf.W s.buf.H s.Orient
def surfRect (s : DSurf) : DRect := if s.ok ∧ s.Visible = true then ⟨s.X, s.Y, (surfSize s).1, (surfSize s).2⟩ else DRect.zero
def isOpaqueS (s : DSurf) : Prop := s.ok ∧ inR 4278190080 4294967295 (pictureOf s).data
instance (s : DSurf) : Decidable (isOpaqueS s) := by unfold isOpaqueS; infer_instance
/-- the points that painting the first n surfaces costs -/
def costTo (s : DScene) : Nat → Int
  | 0 => s.W * s.H
  | k + 1 => costTo s k + ((surfRect (s.ss.getD k default)).inter ⟨0, 0, s.W, s.H⟩).W * ((surfRect (s.ss.getD k default)).inter ⟨0, 0, s.W, s.H⟩).H
theorem costStep_bd {s : DScene} (hw : 1 ≤ s.W ∧ s.W ≤ 16) (hh : 1 ≤ s.H ∧ s.H ≤ 16) (x : DSurf) : 0 ≤ ((surfRect x).inter ⟨0, 0, s.W, s.H⟩).W * ((surfRect x).inter ⟨0, 0, s.W, s.H⟩).H ∧ ((surfRect x).inter ⟨0, 0, s.W, s.H⟩).W * ((surfRect x).inter ⟨0, 0, s.W, s.H⟩).H ≤ 256 := by
  have hb : (⟨0, 0, s.W, s.H⟩ : DRect).ok := by unfold DRect.ok; dsimp only; omega
  have h1 := DRect.inter_bd (surfRect x) hb
  exact mul_bd (A := 16) (B := 16) (by dsimp only at h1; omega) (by dsimp only at h1; omega)
theorem costTo_bd {s : DScene} (hw : 1 ≤ s.W ∧ s.W ≤ 16) (hh : 1 ≤ s.H ∧ s.H ≤ 16) : ∀ k, 0 ≤ costTo s k ∧ costTo s k ≤ 256 + 256 * k
  | 0 => by have := side_mul (w := s.W) (h := s.H) ⟨hw.1, hw.2, hh.1, hh.2⟩; simp [costTo]; omega
  | k + 1 => by
    have ih := costTo_bd hw hh k
    have hb : (⟨0, 0, s.W, s.H⟩ : DRect).ok := by unfold DRect.ok; dsimp only; omega
    have h1 := DRect.inter_bd (surfRect (s.ss.getD k default)) hb
    have := mul_bd (a := ((surfRect (s.ss.getD k default)).inter ⟨0, 0, s.W, s.H⟩).W) (b := ((surfRect (s.ss.getD k default)).inter ⟨0, 0, s.W, s.H⟩).H) (A := 16) (B := 16) (by dsimp only at h1; omega) (by dsimp only at h1; omega)
    simp only [costTo]; omega
def paintCost (s : DScene) : Int := if s.ok then costTo s s.ss.length else 0
theorem rawPicture_ok {s : DSurf} (h : s.ok) : (rawPicture s).ok := by
  have h1 := oriented_ok h.2.2.2.2.2.2 h.2.2.2.2.2.1
  have h2 := h.2.2.2.1
  unfold rawPicture
  unfold DSurf.sized at h2
  split
  · exact scaled_ok h1 (by omega) (by omega)
  · exact h1
theorem fadedImg_ok {i : DImg} {a : Int} (h : i.ok) (ha : byteP a) : (fadedImg i a).ok := by
  refine ⟨h.1, h.2.1, by simpa [fadedImg] using h.2.2.1, fun k hk => ?_⟩
  simp only [fadedImg, List.length_map] at hk
  have : (fadedImg i a).data.getD k 0 = fade (i.data.getD k 0) a := by
    simp [fadedImg, List.getD_eq_getElem?_getD, List.getElem?_map, List.getElem?_eq_getElem hk]
  rw [this]
  exact fade_bd (h.pix k) ha
theorem pictureOf_ok {s : DSurf} (h : s.ok) : (pictureOf s).ok := by
  unfold pictureOf; rw [if_pos h]; exact fadedImg_ok (rawPicture_ok h) h.2.2.2.2.1

/-! ### sizes, marks -/
theorem szI_or (n : Nat) (left : Int) : szI n left = -1 ∧ left < n ∨ szI n left = left - n ∧ (n : Int) ≤ left := by
  unfold szI; split <;> omega
def sumTo (f : Nat → Nat) : Nat → Nat
  | 0 => 0
  | k + 1 => sumTo f k + f k
theorem sumTo_mono (f : Nat → Nat) {i : Nat} : ∀ {n : Nat}, i ≤ n → sumTo f i ≤ sumTo f n
  | 0, h => by have : i = 0 := by omega
               subst this; exact Nat.le_refl _
  | n + 1, h => by
    by_cases e : i = n + 1
    · subst e; exact Nat.le_refl _
    · have := sumTo_mono f (i := i) (n := n) (by omega)
      simp only [sumTo]; omega
theorem le_sumTo (f : Nat → Nat) {i n : Nat} (h : i < n) : f i ≤ sumTo f n := by
  have := sumTo_mono f (i := i + 1) (n := n) (by omega)
  simp only [sumTo] at this; omega
def surfsLen (l : List DSurf) : Nat := l.length + sumTo (fun i => (l.getD i default).buf.data.length) l.length
/-- k, k + 1, .. -/
def iota (k : Int) (n : Nat) : List Int := (List.range n).map (fun i : Nat => k + (i : Int))
theorem iota_length (k : Int) (n : Nat) : (iota k n).length = n := by simp [iota]
theorem iota_get (k : Int) {i n : Nat} (h : i < n) : (iota k n).getD i 0 = k + i := by
  rw [List.getD_eq_getElem?_getD]; simp [iota, h]
/-- the first j are marked -/
def markTo (l : List Int) (k : Int) (j : Nat) : List Int := iota k j ++ l.drop j
theorem markTo_zero (l : List Int) (k : Int) : markTo l k 0 = l := by simp [markTo, iota]
theorem markTo_all (l : List Int) (k : Int) : markTo l k l.length = iota k l.length := by simp [markTo]
theorem markTo_length (l : List Int) (k : Int) (j : Nat) (h : j ≤ l.length) : (markTo l k j).length = l.length := by
  simp [markTo, iota_length]; omega
theorem markTo_set (l : List Int) (k : Int) (j : Nat) (h : j < l.length) : (markTo l k j).set j (k + j) = markTo l k (j + 1) := by
  unfold markTo
  rw [List.set_append_right _ _ (by rw [iota_length]; omega), iota_length, Nat.sub_self, List.drop_eq_getElem_cons h, List.set_cons_zero]
  simp [iota, List.range_succ]
def heldI (l : List Int) (k : Int) : Int := if l = iota k l.length then k + l.length else -1
theorem heldI_mark (k : Int) (n : Nat) : heldI (iota k n) k = k + n := by simp [heldI, iota_length]
/-- the first j are as marked -/
def heldTo (l : List Int) (k : Int) (j : Nat) : Prop := ∀ i, i < j → l.getD i 0 = k + i
theorem heldTo_all {l : List Int} {k : Int} {j : Nat} (h : heldTo l k j) (hj : l.length ≤ j) : l = iota k l.length := by
  apply List.ext_getElem?
  intro i
  by_cases hi : i < l.length
  · have := h i (by omega)
    rw [List.getD_eq_getElem?_getD] at this
    simp [iota, hi] at this ⊢
    exact this
  · simp [iota, hi]
theorem heldTo_ne {l : List Int} {k : Int} {j : Nat} (hj : j < l.length) (h : l.getD j 0 ≠ k + j) : ¬ l = iota k l.length := fun e => h (by
  conv => lhs; rw [e]
  exact iota_get k hj)
end Sx
