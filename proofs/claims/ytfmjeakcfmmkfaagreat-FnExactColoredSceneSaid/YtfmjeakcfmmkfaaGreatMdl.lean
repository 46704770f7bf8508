/-
  The plain functions that the program's functions compute. No program in sight.
-/
namespace Sx

theorem tmod_zero (x n : Int) : x.tmod n = 0 ↔ x % n = 0 := by
  rw [← Int.dvd_iff_tmod_eq_zero, Int.dvd_iff_emod_eq_zero]

theorem mul_bd {a b A B : Int} (ha : 0 ≤ a ∧ a ≤ A) (hb : 0 ≤ b ∧ b ≤ B) : 0 ≤ a * b ∧ a * b ≤ A * B :=
  ⟨Int.mul_nonneg ha.1 hb.1, Int.le_trans (Int.mul_le_mul_of_nonneg_right ha.2 hb.1) (Int.mul_le_mul_of_nonneg_left hb.2 (by omega))⟩
theorem mul_pos' {a b : Int} (ha : 1 ≤ a) (hb : 1 ≤ b) : 1 ≤ a * b := Int.mul_pos ha hb

/-! ### chapter 9: dithering -/
def levelOf (d k : Int) : Int := if 0 ≤ d ∧ d ≤ 262143 ∧ 0 ≤ k ∧ k ≤ 2 then (d / 2 ^ (12 - 6 * k).toNat) % 2 ^ 6 else -1
def threshold (x y : Int) : Int := if x % 2 = 0 then (if y % 2 = 0 then 0 else 3) else (if y % 2 = 0 then 2 else 1)
def ditherLevel (v x y : Int) : Int := if 0 ≤ v ∧ v ≤ 255 then (252 * v + 255 * threshold x y) / 1020 else -1
theorem threshold_bd (x y : Int) : 0 ≤ threshold x y ∧ threshold x y ≤ 3 := by unfold threshold; (repeat' split) <;> omega
theorem ditherLevel_bd {v : Int} (x y : Int) (h : 0 ≤ v ∧ v ≤ 255) : 0 ≤ ditherLevel v x y ∧ ditherLevel v x y ≤ 63 := by
  have := threshold_bd x y
  unfold ditherLevel; rw [if_pos h]; omega
/-- the i-th number that a law reads off its code -/
def atB (l : List Int) (i : Nat) : Int := if l.length = 0 then 0 else l.getD ((i * 5 + 1) % l.length) 0
def allDots (l : List Int) : Prop := ∀ i : Nat, i < l.length → 0 ≤ l.getD i 0 ∧ l.getD i 0 ≤ 262143
def dotsTo (l : List Int) (j : Nat) : Prop := ∀ i : Nat, i < j → 0 ≤ l.getD i 0 ∧ l.getD i 0 ≤ 262143
theorem dotsTo_zero (l : List Int) : dotsTo l 0 := fun i h => by omega
theorem dotsTo_next {l : List Int} {j : Nat} (h : dotsTo l j) (hj : 0 ≤ l.getD j 0 ∧ l.getD j 0 ≤ 262143) : dotsTo l (j + 1) := fun i hi => by
  by_cases e : i = j
  · subst e; exact hj
  · exact h i (by omega)
instance (l : List Int) : Decidable (allDots l) := inferInstanceAs (Decidable (∀ i : Nat, i < l.length → _))
def pictureOk (l : List Int) (w h : Int) : Prop := (1 ≤ w ∧ w ≤ 16) ∧ (1 ≤ h ∧ h ≤ 16) ∧ (l.length : Int) = w * h ∧ allDots l
instance (l : List Int) (w h : Int) : Decidable (pictureOk l w h) := by unfold pictureOk; infer_instance
/-! ### chapter 4: pixels -/
def chan (p k : Int) : Int := (p / 2 ^ (24 - 8 * k).toNat) % 2 ^ 8
def channelOf (p k : Int) : Int := if 0 ≤ p ∧ p ≤ 4294967295 ∧ 0 ≤ k ∧ k ≤ 3 then chan p k else -1
def ditherPixel (p x y : Int) : Int :=
  if 0 ≤ p ∧ p ≤ 4294967295 then ditherLevel (chan p 1) x y * 4096 + ditherLevel (chan p 2) x y * 64 + ditherLevel (chan p 3) x y else -1
theorem chan_bd (p k : Int) : 0 ≤ chan p k ∧ chan p k ≤ 255 := by unfold chan; omega
/-! ### chapter 16: modes -/
structure DMode where
  Clock : Int
  W : Int
  HFront : Int
  HSync : Int
  HBack : Int
  H : Int
  VFront : Int
  VSync : Int
  VBack : Int
def DMode.ok (m : DMode) : Prop := (1 ≤ m.Clock ∧ m.Clock ≤ 1000000) ∧ (1 ≤ m.W ∧ m.W ≤ 16) ∧ (1 ≤ m.H ∧ m.H ≤ 16) ∧ (1 ≤ m.HSync ∧ m.HSync ≤ 40) ∧ (1 ≤ m.VSync ∧ m.VSync ≤ 40) ∧ (0 ≤ m.HFront ∧ m.HFront ≤ 40) ∧ (0 ≤ m.HBack ∧ m.HBack ≤ 40) ∧ (0 ≤ m.VFront ∧ m.VFront ≤ 40) ∧ (0 ≤ m.VBack ∧ m.VBack ≤ 40)
instance (m : DMode) : Decidable m.ok := by unfold DMode.ok; infer_instance
def blankLines (m : DMode) : Int := if m.ok then m.VFront + m.VSync + m.VBack else 0
def lineTotal (m : DMode) : Int := if m.ok then m.W + m.HFront + m.HSync + m.HBack else 0
def frameTotal (m : DMode) : Int := if m.ok then lineTotal m * (m.H + blankLines m) else 0
def refreshRate (m : DMode) : Int := if m.ok then m.Clock * 1000000 / frameTotal m else 0
theorem blank_bd (m : DMode) : 0 ≤ blankLines m ∧ blankLines m ≤ 120 ∧ (m.ok → 1 ≤ blankLines m) := by
  unfold blankLines
  by_cases h : m.ok
  · rw [if_pos h]; unfold DMode.ok at h; omega
  · rw [if_neg h]; exact ⟨by omega, by omega, fun h' => (h h').elim⟩
theorem line_bd (m : DMode) : 0 ≤ lineTotal m ∧ lineTotal m ≤ 136 ∧ (m.ok → 2 ≤ lineTotal m) := by
  unfold lineTotal
  by_cases h : m.ok
  · rw [if_pos h]; unfold DMode.ok at h; omega
  · rw [if_neg h]; exact ⟨by omega, by omega, fun h' => (h h').elim⟩
theorem prod_bd (m : DMode) (h : m.ok) : 1 ≤ lineTotal m * (m.H + blankLines m) ∧ lineTotal m * (m.H + blankLines m) ≤ 18496 := by
  have h1 := line_bd m
  have h2 := blank_bd m
  have h3 := h
  unfold DMode.ok at h3
  have h4 := h1.2.2 h
  have h5 := h2.2.2 h
  have := mul_bd (a := lineTotal m) (b := m.H + blankLines m) (A := 136) (B := 136) (by omega) (by omega)
  have := mul_pos' (a := lineTotal m) (b := m.H + blankLines m) (by omega) (by omega)
  omega
theorem frame_bd (m : DMode) : 0 ≤ frameTotal m ∧ frameTotal m ≤ 18496 ∧ (m.ok → 1 ≤ frameTotal m) := by
  unfold frameTotal
  by_cases h : m.ok
  · rw [if_pos h]; have := prod_bd m h; omega
  · rw [if_neg h]; exact ⟨by omega, by omega, fun h' => (h h').elim⟩
/-! ### chapter 15: layouts -/
theorem side_mul {w h : Int} : (1 ≤ w ∧ w ≤ 16 ∧ 1 ≤ h ∧ h ≤ 16) → (1 ≤ w * h ∧ w * h ≤ 256) := fun a => by
  have := mul_bd (a := w) (b := h) (A := 16) (B := 16) (by omega) (by omega)
  have := mul_pos' (a := w) (b := h) (by omega) (by omega)
  omega
def tiles (n : Int) : Int := (n + 3) / 4
def wordCount (w h layout : Int) : Int :=
  if 1 ≤ w ∧ w ≤ 16 ∧ 1 ≤ h ∧ h ≤ 16 then (if layout = 0 then w * h else if layout = 1 then tiles w * 4 * (tiles h * 4) else -1) else -1
def wplace (w layout x y : Int) : Int := if layout = 0 then y * w + x else (y / 4 * tiles w + x / 4) * 16 + y % 4 * 4 + x % 4
def wordPlace (w h layout x y : Int) : Int := if wordCount w h layout < 0 ∨ x < 0 ∨ w ≤ x ∨ y < 0 ∨ h ≤ y then -1 else wplace w layout x y
/-- the levels of the first k places of a square -/
def dsum (v x y : Int) : Nat → Int
  | 0 => 0
  | k + 1 => dsum v x y k + ditherLevel v (x + (k : Int).tmod 2) (y + (k : Int).tdiv 2)
/-- the dots of the first k channels -/
def dpix (p x y : Int) : Nat → Int
  | 0 => 0
  | k + 1 => if k < 3 then dpix p x y k * 64 + ditherLevel (chan p ((k : Int) + 1)) x y else 0
theorem dpix_bd (p x y : Int) : ∀ k, 0 ≤ dpix p x y k ∧ dpix p x y k ≤ 262143
  | 0 => by simp [dpix]
  | 1 => by have := ditherLevel_bd x y (chan_bd p 1); simp [dpix]; omega
  | 2 => by have := ditherLevel_bd x y (chan_bd p 1); have := ditherLevel_bd x y (chan_bd p 2); simp [dpix]; omega
  | 3 => by have := ditherLevel_bd x y (chan_bd p 1); have := ditherLevel_bd x y (chan_bd p 2); have := ditherLevel_bd x y (chan_bd p 3); simp [dpix]; omega
  | k + 4 => by unfold dpix; rw [if_neg (by omega)]; omega
theorem dpix_next (p x y : Int) (k : Nat) (h : k < 3) : dpix p x y (k + 1) = dpix p x y k * 64 + ditherLevel (chan p ((k : Int) + 1)) x y := by
  conv => lhs; unfold dpix
  rw [if_pos h]
theorem dpix_three (p x y : Int) : dpix p x y 3 = ditherLevel (chan p 1) x y * 4096 + ditherLevel (chan p 2) x y * 64 + ditherLevel (chan p 3) x y := by
  simp [dpix]; omega
theorem wordCount_ge {w h l : Int} (hn : ¬ wordCount w h l < 0) : (1 ≤ w ∧ w ≤ 16) ∧ (1 ≤ h ∧ h ≤ 16) ∧ (l = 0 ∨ l = 1) := by
  unfold wordCount at hn
  split at hn
  · split at hn
    · omega
    · split at hn <;> omega
  · omega
theorem ditherLevel_near {v : Int} (x y : Int) (h : 0 ≤ v ∧ v ≤ 255) : 63 * v / 255 ≤ ditherLevel v x y ∧ ditherLevel v x y ≤ 63 * v / 255 + 1 := by
  have := threshold_bd x y
  unfold ditherLevel; rw [if_pos h]; omega
theorem dsum_next (v x y : Int) (j : Nat) : dsum v x y (j + 1) = dsum v x y j + ditherLevel v (x + (j : Int) % 2) (y + (j : Int) / 2) := by
  rw [dsum, Int.tmod_eq_emod_of_nonneg (by omega), Int.tdiv_eq_ediv_of_nonneg (by omega)]
theorem dsum_four {v : Int} (a b : Int) (h : 0 ≤ v ∧ v ≤ 255) : dsum v (2 * a) (2 * b) 4 = 252 * v / 255 := by
  have e0 : threshold (2 * a) (2 * b) = 0 := by unfold threshold; rw [if_pos (by omega), if_pos (by omega)]
  have e1 : threshold (2 * a + 1) (2 * b) = 2 := by unfold threshold; rw [if_neg (by omega), if_pos (by omega)]
  have e2 : threshold (2 * a) (2 * b + 1) = 3 := by unfold threshold; rw [if_pos (by omega), if_neg (by omega)]
  have e3 : threshold (2 * a + 1) (2 * b + 1) = 1 := by unfold threshold; rw [if_neg (by omega), if_neg (by omega)]
  rw [dsum_next, dsum_next, dsum_next, dsum_next]
  simp only [dsum, ditherLevel, if_pos h]
  simp [e0, e1, e2, e3]
  generalize hA : 252 * v = A
  have f0 : A / 1020 = (A / 255) / 4 := by omega
  have f1 : (A + 255) / 1020 = (A / 255 + 1) / 4 := by omega
  have f2 : (A + 510) / 1020 = (A / 255 + 2) / 4 := by omega
  have f3 : (A + 765) / 1020 = (A / 255 + 3) / 4 := by omega
  rw [f0, f1, f2, f3]
  have hq : ∀ q : Int, 0 + q / 4 + (q + 2) / 4 + (q + 3) / 4 + (q + 1) / 4 = q := by intro q; omega
  have := hq (A / 255)
  omega
theorem dsum_bd {v : Int} (x y : Int) (h : 0 ≤ v ∧ v ≤ 255) : ∀ j : Nat, 0 ≤ dsum v x y j ∧ dsum v x y j ≤ 63 * j
  | 0 => by simp [dsum]
  | j + 1 => by
    have := dsum_bd x y h j
    have := ditherLevel_bd (x + (j : Int) % 2) (y + (j : Int) / 2) h
    rw [dsum_next]; omega
/-! ### chapter 8: color -/
structure DColor where
  mat : List Int
  curve : List Int
deriving DecidableEq
def szI (n : Nat) (left : Int) : Int := if left - n < 0 then -1 else left - n
def inR (lo hi : Int) (l : List Int) : Prop := ∀ i : Nat, i < l.length → lo ≤ l.getD i 0 ∧ l.getD i 0 ≤ hi
instance (lo hi : Int) (l : List Int) : Decidable (inR lo hi l) := inferInstanceAs (Decidable (∀ i : Nat, i < l.length → _))
def inTo (lo hi : Int) (l : List Int) (j : Nat) : Prop := ∀ i : Nat, i < j → lo ≤ l.getD i 0 ∧ l.getD i 0 ≤ hi
theorem inTo_zero (lo hi : Int) (l : List Int) : inTo lo hi l 0 := fun i h => by omega
theorem inTo_next {lo hi : Int} {l : List Int} {j : Nat} (h : inTo lo hi l j) (hj : lo ≤ l.getD j 0 ∧ l.getD j 0 ≤ hi) : inTo lo hi l (j + 1) := fun i hi => by
  by_cases e : i = j
  · subst e; exact hj
  · exact h i (by omega)
def DColor.ok (m : DColor) : Prop := m.mat.length = 9 ∧ m.curve.length = 17 ∧ inR (-1024) 1024 m.mat ∧ inR 0 256 m.curve
instance (m : DColor) : Decidable m.ok := by unfold DColor.ok; infer_instance
end Sx
