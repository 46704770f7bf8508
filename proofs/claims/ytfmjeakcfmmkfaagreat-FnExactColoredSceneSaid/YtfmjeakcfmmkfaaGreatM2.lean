/-
  The plain functions, continued: regions. A set of points of the screen, its rectangles, its area. No program in sight.
-/
import Derived.Test.YtfmjeakcfmmkfaaGreatM1
set_option linter.unusedVariables false
namespace Sx

/-- which points belong to a set: row, column -/
abbrev Grid := Nat → Nat → Bool
def Grid.eqv (g h : Grid) : Prop := ∀ y x, y < 16 → x < 16 → g y x = h y x
theorem Grid.eqv.refl (g : Grid) : g.eqv g := fun _ _ _ _ => rfl
theorem Grid.eqv.symm {g h : Grid} (e : g.eqv h) : h.eqv g := fun y x hy hx => (e y x hy hx).symm
theorem Grid.eqv.trans {g h k : Grid} (e : g.eqv h) (f : h.eqv k) : g.eqv k := fun y x hy hx => (e y x hy hx).trans (f y x hy hx)
/-- how many places from x on, below 16, are true -/
def rnlF (f : Nat → Bool) : Nat → Nat → Nat
  | 0, _ => 0
  | k + 1, x => if x < 16 ∧ f x = true then rnlF f k (x + 1) + 1 else 0
def rnl (f : Nat → Bool) (x : Nat) : Nat := rnlF f (16 - x) x
theorem rnlF_is (f : Nat → Bool) : ∀ (k x : Nat), 16 - x ≤ k → (∀ i, x ≤ i → i < x + rnlF f k x → i < 16 ∧ f i = true) ∧ ¬ (x + rnlF f k x < 16 ∧ f (x + rnlF f k x) = true)
  | 0, x, hk => ⟨fun i h1 h2 => by simp only [rnlF] at h2; omega, fun h => by simp only [rnlF] at h; omega⟩
  | k + 1, x, hk => by
    unfold rnlF
    by_cases h : x < 16 ∧ f x = true
    · rw [if_pos h]
      have ih := rnlF_is f k (x + 1) (by omega)
      refine ⟨fun i h1 h2 => ?_, fun h2 => ih.2 ?_⟩
      · by_cases e : i = x
        · subst e; exact h
        · exact ih.1 i (by omega) (by omega)
      · rw [show x + 1 + rnlF f k (x + 1) = x + (rnlF f k (x + 1) + 1) by omega]; exact h2
    · rw [if_neg h]
      exact ⟨fun i h1 h2 => by omega, h⟩
theorem rnl_in {f : Nat → Bool} {x i : Nat} (h1 : x ≤ i) (h2 : i < x + rnl f x) : i < 16 ∧ f i = true := (rnlF_is f _ x (Nat.le_refl _)).1 i h1 h2
theorem rnl_end {f : Nat → Bool} {x : Nat} : ¬ (x + rnl f x < 16 ∧ f (x + rnl f x) = true) := (rnlF_is f _ x (Nat.le_refl _)).2
theorem rnl_eq {f : Nat → Bool} {x w : Nat} (h1 : ∀ i, x ≤ i → i < x + w → i < 16 ∧ f i = true) (h2 : ¬ (x + w < 16 ∧ f (x + w) = true)) : rnl f x = w := by
  rcases Nat.lt_trichotomy (rnl f x) w with h | h | h
  · exact absurd (h1 (x + rnl f x) (by omega) (by omega)) rnl_end
  · exact h
  · exact absurd (rnl_in (f := f) (x := x) (i := x + w) (by omega) (by omega)) h2
theorem rnl_le {f : Nat → Bool} {x : Nat} (hx : x ≤ 16) : x + rnl f x ≤ 16 := by
  by_cases h : rnl f x = 0
  · omega
  · have := (rnl_in (f := f) (x := x) (i := x + rnl f x - 1) (by omega) (by omega)).1; omega
theorem rnl_congr {f g : Nat → Bool} {x : Nat} (h : ∀ i, i < 16 → f i = g i) : rnl f x = rnl g x :=
  rnl_eq (fun i h1 h2 => by have := rnl_in h1 h2; exact ⟨this.1, by rw [h i this.1]; exact this.2⟩) (fun hh => rnl_end (f := g) (x := x) ⟨hh.1, by rw [← h _ hh.1]; exact hh.2⟩)
/-- the rectangles of a row, from x on -/
def rowF (f : Nat → Bool) (y h : Int) : Nat → Nat → List DRect
  | 0, _ => []
  | k + 1, x => if x < 16 then (if rnl f x = 0 then [] else [⟨x, y, rnl f x, h⟩]) ++ rowF f y h k (x + rnl f x + 1) else []
def rowR (f : Nat → Bool) (y h : Int) (x : Nat) : List DRect := rowF f y h (16 - x) x
theorem rowF_fuel (f : Nat → Bool) (y h : Int) : ∀ (k j x : Nat), 16 - x ≤ k → 16 - x ≤ j → rowF f y h k x = rowF f y h j x
  | 0, 0, x, _, _ => rfl
  | 0, j + 1, x, hk, _ => by unfold rowF; rw [if_neg (by omega)]
  | k + 1, 0, x, _, hj => by unfold rowF; rw [if_neg (by omega)]
  | k + 1, j + 1, x, hk, hj => by
    unfold rowF
    by_cases hx : x < 16
    · rw [if_pos hx, if_pos hx, rowF_fuel f y h k j _ (by omega) (by omega)]
    · rw [if_neg hx, if_neg hx]
theorem rowR_done {f : Nat → Bool} {y h : Int} {x : Nat} (hx : 16 ≤ x) : rowR f y h x = [] := by
  unfold rowR; rw [show 16 - x = 0 by omega]; rfl
theorem rowR_step {f : Nat → Bool} {y h : Int} {x : Nat} (hx : x < 16) : rowR f y h x = (if rnl f x = 0 then [] else [⟨x, y, rnl f x, h⟩]) ++ rowR f y h (x + rnl f x + 1) := by
  unfold rowR
  rw [show 16 - x = (15 - x) + 1 by omega]
  conv => lhs; unfold rowF
  rw [if_pos hx, rowF_fuel f y h (15 - x) (16 - (x + rnl f x + 1)) _ (by omega) (by omega)]
theorem row_ind {P : Nat → Prop} (h1 : ∀ x, 16 ≤ x → P x) (h2 : ∀ x, x < 16 → (∀ z, x < z → P z) → P x) : ∀ x, P x := by
  have key : ∀ k x, 16 - x ≤ k → P x := by
    intro k
    induction k with
    | zero => intro x h; exact h1 x (by omega)
    | succ k ih =>
      intro x h
      by_cases hx : x < 16
      · exact h2 x hx (fun z hz => ih z (by omega))
      · exact h1 x (by omega)
  exact fun x => key (16 - x) x (Nat.le_refl _)
theorem rowR_congr {f g : Nat → Bool} {y h : Int} (e : ∀ i, i < 16 → f i = g i) : ∀ x, rowR f y h x = rowR g y h x :=
  row_ind (fun x hx => by rw [rowR_done hx, rowR_done hx]) (fun x hx ih => by rw [rowR_step hx, rowR_step hx, rnl_congr (f := f) (g := g) e, ih _ (by omega)])
/-- rows z and y have the same points -/
def sameRow (g : Grid) (y z : Nat) : Bool := (List.range 16).all (fun x => g z x == g y x)
theorem sameRow_iff {g : Grid} {y z : Nat} : sameRow g y z = true ↔ ∀ x, x < 16 → g z x = g y x := by simp [sameRow]
/-- how many rows from y on are like it -/
def hgt (g : Grid) (y : Nat) : Nat := 1 + rnl (sameRow g y) (y + 1)
def canonF (g : Grid) : Nat → Nat → List DRect
  | 0, _ => []
  | k + 1, y => if y < 16 then rowR (g y) y (hgt g y) 0 ++ canonF g k (y + hgt g y) else []
def canonR (g : Grid) (y : Nat) : List DRect := canonF g (16 - y) y
/-- the canonical form of a set -/
def canon (g : Grid) : List DRect := canonR g 0
theorem canonF_fuel (g : Grid) : ∀ (k j y : Nat), 16 - y ≤ k → 16 - y ≤ j → canonF g k y = canonF g j y
  | 0, 0, x, _, _ => rfl
  | 0, j + 1, y, hk, _ => by unfold canonF; rw [if_neg (by omega)]
  | k + 1, 0, y, _, hj => by unfold canonF; rw [if_neg (by omega)]
  | k + 1, j + 1, y, hk, hj => by
    have := (show 1 ≤ hgt g y by unfold hgt; omega)
    unfold canonF
    by_cases hy : y < 16
    · rw [if_pos hy, if_pos hy, canonF_fuel g k j _ (by omega) (by omega)]
    · rw [if_neg hy, if_neg hy]
theorem hgt_pos (g : Grid) (y : Nat) : 1 ≤ hgt g y := by unfold hgt; omega
theorem hgt_le {g : Grid} {y : Nat} (hy : y < 16) : y + hgt g y ≤ 16 := by
  have := rnl_le (f := sameRow g y) (x := y + 1) (by omega); unfold hgt; omega
theorem hgt_in {g : Grid} {y z x : Nat} (h1 : y ≤ z) (h2 : z < y + hgt g y) (hx : x < 16) : g z x = g y x := by
  by_cases e : z = y
  · subst e; rfl
  · exact sameRow_iff.1 (rnl_in (f := sameRow g y) (x := y + 1) (i := z) (by omega) (by unfold hgt at h2; omega)).2 x hx
theorem canonR_done {g : Grid} {y : Nat} (hy : 16 ≤ y) : canonR g y = [] := by unfold canonR; rw [show 16 - y = 0 by omega]; rfl
theorem canonR_step {g : Grid} {y : Nat} (hy : y < 16) : canonR g y = rowR (g y) y (hgt g y) 0 ++ canonR g (y + hgt g y) := by
  have := hgt_pos g y
  unfold canonR
  rw [show 16 - y = (15 - y) + 1 by omega]
  conv => lhs; unfold canonF
  rw [if_pos hy, canonF_fuel g (15 - y) (16 - (y + hgt g y)) _ (by omega) (by omega)]
theorem sameRow_congr {g k : Grid} (e : g.eqv k) {y z : Nat} (hy : y < 16) (hz : z < 16) : sameRow g y z = sameRow k y z := by
  rw [Bool.eq_iff_iff, sameRow_iff, sameRow_iff]
  exact ⟨fun h x hx => by rw [← e z x hz hx, ← e y x hy hx]; exact h x hx, fun h x hx => by rw [e z x hz hx, e y x hy hx]; exact h x hx⟩
theorem hgt_congr {g k : Grid} (e : g.eqv k) {y : Nat} (hy : y < 16) : hgt g y = hgt k y := by
  unfold hgt; rw [rnl_congr (fun i hi => sameRow_congr e hy hi)]
theorem canonR_congr {g k : Grid} (e : g.eqv k) : ∀ y, canonR g y = canonR k y :=
  row_ind (fun y hy => by rw [canonR_done hy, canonR_done hy]) (fun y hy ih => by
    have := hgt_pos g y
    rw [canonR_step hy, canonR_step hy, hgt_congr e hy, rowR_congr (fun i hi => e y i hy hi)]
    rw [hgt_congr e hy] at this
    rw [ih _ (by omega)])
theorem canon_congr {g k : Grid} (e : g.eqv k) : canon g = canon k := canonR_congr e 0

/-! the points of rectangles -/
def DRect.holds (r : DRect) (y x : Nat) : Bool := decide (r.has x y)
def points (l : List DRect) : Grid := fun y x => l.any (fun r => r.holds y x)
theorem points_nil (y x : Nat) : points [] y x = false := rfl
theorem points_cons (r : DRect) (l : List DRect) (y x : Nat) : points (r :: l) y x = (r.holds y x || points l y x) := by simp [points]
theorem points_append (k l : List DRect) (y x : Nat) : points (k ++ l) y x = (points k y x || points l y x) := by simp [points]
/-- a rectangle of the screen with points -/
def DRect.inScreen (r : DRect) : Prop := 0 ≤ r.X ∧ 0 ≤ r.Y ∧ 1 ≤ r.W ∧ 1 ≤ r.H ∧ r.X + r.W ≤ 16 ∧ r.Y + r.H ≤ 16
theorem DRect.inScreen.ok {r : DRect} (h : r.inScreen) : r.ok := by unfold DRect.inScreen at h; unfold DRect.ok; omega
theorem rowR_in {f : Nat → Bool} {y h : Int} (hy : 0 ≤ y) (hh : 1 ≤ h) (hs : y + h ≤ 16) : ∀ x, ∀ r ∈ rowR f y h x, r.inScreen ∧ r.Y = y ∧ r.H = h ∧ (x : Int) ≤ r.X :=
  row_ind (fun x hx r hr => by rw [rowR_done hx] at hr; cases hr) (fun x hx ih r hr => by
    rw [rowR_step hx, List.mem_append] at hr
    have hle := rnl_le (f := f) (x := x) (by omega)
    rcases hr with hr | hr
    · split at hr
      · cases hr
      · rw [List.mem_singleton] at hr
        subst hr
        unfold DRect.inScreen; dsimp only; omega
    · have := ih _ (by omega) r hr
      exact ⟨this.1, this.2.1, this.2.2.1, by omega⟩)
theorem canonR_in {g : Grid} : ∀ y, ∀ r ∈ canonR g y, r.inScreen ∧ (y : Int) ≤ r.Y :=
  row_ind (fun y hy r hr => by rw [canonR_done hy] at hr; cases hr) (fun y hy ih r hr => by
    have h1 := hgt_pos g y
    have h2 := hgt_le (g := g) hy
    rw [canonR_step hy, List.mem_append] at hr
    rcases hr with hr | hr
    · have := rowR_in (by omega) (by omega) (by omega) 0 r hr
      exact ⟨this.1, by omega⟩
    · have := ih _ (by omega) r hr
      exact ⟨this.1, by omega⟩)
theorem canon_in {g : Grid} {r : DRect} (h : r ∈ canon g) : r.inScreen := (canonR_in 0 r h).1
theorem rowR_points {f : Nat → Bool} {y h : Int} (hy : 0 ≤ y) (hh : 1 ≤ h) (hs : y + h ≤ 16) : ∀ x, ∀ b a : Nat, points (rowR f y h x) b a = decide (x ≤ a ∧ a < 16 ∧ f a = true ∧ y ≤ b ∧ (b : Int) < y + h) :=
  row_ind (fun x hx b a => by rw [rowR_done hx, points_nil]; exact (decide_eq_false (by omega)).symm) (fun x hx ih b a => by
    have hle := rnl_le (f := f) (x := x) (by omega)
    have hend := rnl_end (f := f) (x := x)
    have hin := fun i => rnl_in (f := f) (x := x) (i := i)
    rw [rowR_step hx, points_append, ih _ (by omega)]
    have e1 : points (if rnl f x = 0 then [] else [⟨x, y, rnl f x, h⟩]) b a = decide (x ≤ a ∧ a < x + rnl f x ∧ y ≤ b ∧ (b : Int) < y + h) := by
      split
      · rw [points_nil]; exact (decide_eq_false (by omega)).symm
      · rw [points_cons, points_nil, Bool.or_false]
        unfold DRect.holds DRect.has DRect.ok
        dsimp only
        exact decide_eq_decide.2 (by omega)
    rw [e1, ← Bool.decide_or]
    refine decide_eq_decide.2 ⟨fun hh => ?_, fun hh => ?_⟩
    · rcases hh with hh | hh
      · have := hin a hh.1 hh.2.1; exact ⟨hh.1, this.1, this.2, hh.2.2.1, hh.2.2.2⟩
      · exact ⟨by omega, hh.2.1, hh.2.2.1, hh.2.2.2.1, hh.2.2.2.2⟩
    · obtain ⟨h1, h2, h3, h4, h5⟩ := hh
      by_cases e : a < x + rnl f x
      · exact .inl ⟨h1, e, h4, h5⟩
      · by_cases e2 : a = x + rnl f x
        · subst e2; exact absurd ⟨h2, h3⟩ hend
        · exact .inr ⟨by omega, h2, h3, h4, h5⟩)
theorem canonR_points {g : Grid} : ∀ y, ∀ b a : Nat, b < 16 → a < 16 → points (canonR g y) b a = (decide (y ≤ b) && g b a) :=
  row_ind (fun y hy b a hb ha => by rw [canonR_done hy, points_nil, decide_eq_false (by omega), Bool.false_and]) (fun y hy ih b a hb ha => by
    have h1 := hgt_pos g y
    have h2 := hgt_le (g := g) hy
    rw [canonR_step hy, points_append, ih _ (by omega) b a hb ha, rowR_points (by omega) (by omega) (by omega)]
    by_cases e1 : y ≤ b
    · by_cases e2 : b < y + hgt g y
      · rw [hgt_in e1 e2 ha]
        rw [decide_eq_false (show ¬ (y + hgt g y ≤ b) by omega), Bool.false_and, Bool.or_false, decide_eq_true e1, Bool.true_and]
        generalize g y a = q
        cases q
        · exact decide_eq_false (by simp)
        · exact decide_eq_true ⟨by omega, ha, rfl, by omega, by omega⟩
      · rw [decide_eq_false (by omega), Bool.false_or, decide_eq_true e1, decide_eq_true (show y + hgt g y ≤ b by omega)]
    · rw [decide_eq_false (by omega), Bool.false_or, decide_eq_false e1, decide_eq_false (show ¬ (y + hgt g y ≤ b) by omega)])
theorem points_canon (g : Grid) : (points (canon g)).eqv g := fun y x hy hx => by
  rw [canon, canonR_points 0 y x hy hx, decide_eq_true (Nat.zero_le _), Bool.true_and]
theorem canon_points (g : Grid) : canon (points (canon g)) = canon g := canon_congr (points_canon g)
/-- a region in canonical form -/
def regionOk (l : List DRect) : Prop := canon (points l) = l
instance (l : List DRect) : Decidable (regionOk l) := by unfold regionOk; infer_instance
theorem regionOk_canon (g : Grid) : regionOk (canon g) := canon_points g
theorem regionOk.inScreen {l : List DRect} (h : regionOk l) {r : DRect} (hr : r ∈ l) : r.inScreen := canon_in (g := points l) (by unfold regionOk at h; rwa [h])

/-! how many rectangles, how many points -/
theorem rowR_length {f : Nat → Bool} {y h : Int} : ∀ x, (rowR f y h x).length ≤ (17 - x) / 2 :=
  row_ind (fun x hx => by rw [rowR_done hx]; simp) (fun x hx ih => by
    rw [rowR_step hx, List.length_append]
    split
    · have := ih (x + rnl f x + 1) (by omega); simp only [List.length_nil]
      have hz : rnl f x = 0 := by assumption
      rw [hz] at this ⊢; omega
    · have := ih (x + rnl f x + 1) (by omega); simp only [List.length_cons, List.length_nil]; omega)
theorem canonR_length {g : Grid} : ∀ y, (canonR g y).length ≤ 8 * (16 - y) :=
  row_ind (fun y hy => by rw [canonR_done hy]; simp) (fun y hy ih => by
    have h1 := hgt_pos g y
    have h2 := hgt_le (g := g) hy
    have h3 := rowR_length (f := g y) (y := y) (h := hgt g y) 0
    rw [canonR_step hy, List.length_append]
    have := ih (y + hgt g y) (by omega)
    omega)
theorem canon_length (g : Grid) : (canon g).length ≤ 128 := canonR_length 0
theorem regionOk.length {l : List DRect} (h : regionOk l) : l.length ≤ 128 := by have := canon_length (points l); unfold regionOk at h; rwa [h] at this
def area : List DRect → Int
  | [] => 0
  | r :: l => r.W * r.H + area l
theorem area_append : ∀ (k l : List DRect), area (k ++ l) = area k + area l
  | [], l => by simp [area]
  | r :: k, l => by simp [area, area_append k l]; omega
/-- how many places below n are true -/
def cnt (f : Nat → Bool) : Nat → Nat
  | 0 => 0
  | n + 1 => cnt f n + (if f n = true then 1 else 0)
theorem cnt_congr {f g : Nat → Bool} : ∀ n, (∀ i, i < n → f i = g i) → cnt f n = cnt g n
  | 0, _ => rfl
  | n + 1, h => by simp only [cnt]; rw [cnt_congr n (fun i hi => h i (by omega)), h n (by omega)]
theorem cnt_le (f : Nat → Bool) : ∀ n, cnt f n ≤ n
  | 0 => Nat.le_refl _
  | n + 1 => by have := cnt_le f n; simp only [cnt]; split <;> omega
theorem cnt_mono {f g : Nat → Bool} : ∀ n, (∀ i, i < n → f i = true → g i = true) → cnt f n ≤ cnt g n
  | 0, _ => Nat.le_refl _
  | n + 1, h => by
    have := cnt_mono n (fun i hi => h i (by omega))
    simp only [cnt]
    have h2 := h n (by omega)
    split
    · rw [if_pos (h2 (by assumption))]; omega
    · omega
def sumN (f : Nat → Nat) : Nat → Nat
  | 0 => 0
  | n + 1 => sumN f n + f n
theorem sumN_congr {f g : Nat → Nat} : ∀ n, (∀ i, i < n → f i = g i) → sumN f n = sumN g n
  | 0, _ => rfl
  | n + 1, h => by simp only [sumN]; rw [sumN_congr n (fun i hi => h i (by omega)), h n (by omega)]
theorem sumN_mono {f g : Nat → Nat} : ∀ n, (∀ i, i < n → f i ≤ g i) → sumN f n ≤ sumN g n
  | 0, _ => Nat.le_refl _
  | n + 1, h => by have := sumN_mono n (fun i hi => h i (by omega)); have := h n (by omega); simp only [sumN]; omega
/-- how many points a set has -/
def card (g : Grid) : Nat := sumN (fun y => cnt (g y) 16) 16
theorem card_congr {g h : Grid} (e : g.eqv h) : card g = card h := sumN_congr 16 (fun y hy => cnt_congr 16 (fun x hx => e y x hy hx))
theorem card_mono {g h : Grid} (e : ∀ y x, y < 16 → x < 16 → g y x = true → h y x = true) : card g ≤ card h := sumN_mono 16 (fun y hy => cnt_mono 16 (fun x hx => e y x hy hx))
/-- the true places from x on -/
theorem cnt_run {f : Nat → Bool} {x : Nat} (hx : x ≤ 16) : ∀ w, w ≤ rnl f x → cnt f (x + w) = cnt f x + w
  | 0, _ => rfl
  | w + 1, h => by
    rw [show x + (w + 1) = (x + w) + 1 by omega]
    simp only [cnt]
    rw [cnt_run hx w (by omega), if_pos (rnl_in (f := f) (x := x) (by omega) (by omega)).2]; omega
theorem rowR_area {f : Nat → Bool} {y h : Int} : ∀ x, x ≤ 17 → area (rowR f y h x) = (cnt f 16 - cnt f (min x 16) : Int) * h :=
  row_ind (fun x hx _ => by rw [rowR_done hx, show min x 16 = 16 by omega]; simp [area]) (fun x hx ih hx' => by
    have hle := rnl_le (f := f) (x := x) (by omega)
    have hend := rnl_end (f := f) (x := x)
    have hc := cnt_run (f := f) (x := x) (by omega) (rnl f x) (Nat.le_refl _)
    rw [rowR_step hx, area_append, ih _ (by omega) (by omega)]
    have e1 : area (if rnl f x = 0 then [] else [⟨x, y, rnl f x, h⟩]) = (rnl f x : Int) * h := by
      split
      · rename_i e; rw [e]; simp [area]
      · simp [area]
    have e2 : cnt f (min (x + rnl f x + 1) 16) = cnt f x + rnl f x := by
      by_cases e : x + rnl f x + 1 ≤ 16
      · rw [show min (x + rnl f x + 1) 16 = (x + rnl f x) + 1 by omega]
        simp only [cnt]
        rw [hc, if_neg (fun hh => hend ⟨by omega, hh⟩)]; rfl
      · rw [show min (x + rnl f x + 1) 16 = x + rnl f x by omega, hc]
    rw [e1, e2, show min x 16 = x by omega, ← Int.add_mul]
    congr 1
    push_cast
    omega)
theorem sumN_like {f : Nat → Nat} {y c : Nat} : ∀ w, (∀ z, y ≤ z → z < y + w → f z = c) → sumN f (y + w) = sumN f y + w * c
  | 0, _ => by simp
  | w + 1, h => by
    rw [show y + (w + 1) = (y + w) + 1 by omega]
    simp only [sumN]
    rw [sumN_like w (fun z h1 h2 => h z h1 (by omega)), h (y + w) (by omega) (by omega), Nat.succ_mul]; omega
theorem canonR_area {g : Grid} : ∀ y, y ≤ 16 → area (canonR g y) = (card g : Int) - sumN (fun z => cnt (g z) 16) y :=
  row_ind (fun y hy h => by rw [canonR_done hy, show y = 16 by omega]; simp [area, card]) (fun y hy ih _ => by
    have h1 := hgt_pos g y
    have h2 := hgt_le (g := g) hy
    rw [canonR_step hy, area_append, ih _ (by omega) h2, rowR_area 0 (by omega)]
    rw [sumN_like (f := fun z => cnt (g z) 16) (y := y) (c := cnt (g y) 16) (hgt g y) (fun z h1 h2 => cnt_congr 16 (fun x hx => hgt_in h1 h2 hx))]
    have hz : cnt (g y) (min 0 16) = 0 := rfl
    rw [hz]
    generalize cnt (g y) 16 = c
    have := Int.mul_comm (c : Int) (hgt g y : Int)
    push_cast
    rw [Int.sub_zero, this]
    omega)
theorem area_canon (g : Grid) : area (canon g) = card g := by rw [canon, canonR_area 0 (by omega)]; simp [sumN]
theorem area_ok {l : List DRect} (h : regionOk l) : area l = card (points l) := by
  have := area_canon (points l)
  unfold regionOk at h
  rwa [h] at this

/-! sets of sets -/
def Grid.or (g h : Grid) : Grid := fun y x => g y x || h y x
def Grid.and (g h : Grid) : Grid := fun y x => g y x && h y x
def Grid.without (g h : Grid) : Grid := fun y x => g y x && !h y x
def Grid.none : Grid := fun _ _ => false
theorem Grid.or_congr {g g' h h' : Grid} (e : g.eqv g') (f : h.eqv h') : (g.or h).eqv (g'.or h') := fun y x hy hx => by simp only [Grid.or]; rw [e y x hy hx, f y x hy hx]
theorem Grid.and_congr {g g' h h' : Grid} (e : g.eqv g') (f : h.eqv h') : (g.and h).eqv (g'.and h') := fun y x hy hx => by simp only [Grid.and]; rw [e y x hy hx, f y x hy hx]
theorem Grid.without_congr {g g' h h' : Grid} (e : g.eqv g') (f : h.eqv h') : (g.without h).eqv (g'.without h') := fun y x hy hx => by simp only [Grid.without]; rw [e y x hy hx, f y x hy hx]
/-- the points of a rectangle -/
def rectG (r : DRect) : Grid := fun y x => r.holds y x
theorem points_one (r : DRect) : points [r] = rectG r := by
  funext y x; rw [points_cons, points_nil, Bool.or_false]; rfl
theorem points_congr_append {k l : List DRect} : points (k ++ l) = (points k).or (points l) := by funext y x; exact points_append k l y x
def DRect.screen : DRect := ⟨0, 0, 16, 16⟩
theorem screen_ok : DRect.screen.ok := by unfold DRect.screen DRect.ok; dsimp only; omega
theorem inter_has {a b : DRect} (ha : a.ok) (hb : b.ok) (x y : Int) : (a.inter b).has x y ↔ a.has x y ∧ b.has x y := by
  have h1 := (DRect.inter_ok ha hb).1
  unfold DRect.has
  constructor
  · rintro ⟨_, h⟩
    unfold DRect.inter at h
    rw [if_pos ⟨ha, hb⟩] at h
    unfold DRect.ok at *
    split at h
    · dsimp only [DRect.zero] at h; omega
    · dsimp only at h; omega
  · rintro ⟨⟨_, h2⟩, ⟨_, h3⟩⟩
    refine ⟨h1, ?_⟩
    unfold DRect.inter
    rw [if_pos ⟨ha, hb⟩]
    split
    · omega
    · dsimp only; omega
theorem inter_not {a b : DRect} (h : ¬ a.ok ∨ ¬ b.ok) : a.inter b = DRect.zero := by
  unfold DRect.inter
  rw [if_neg (by rcases h with h | h; exact fun e => h e.1; exact fun e => h e.2)]
theorem zero_has (x y : Int) : ¬ DRect.zero.has x y := by unfold DRect.has DRect.zero; dsimp only; omega
theorem inter_holds {a b : DRect} (hb : b.ok) (y x : Nat) : (a.inter b).holds y x = (a.holds y x && b.holds y x) := by
  unfold DRect.holds
  by_cases ha : a.ok
  · rw [← Bool.decide_and]; exact decide_eq_decide.2 (inter_has ha hb x y)
  · rw [inter_not (.inl ha), decide_eq_false (zero_has _ _), decide_eq_false (fun h => ha h.1), Bool.false_and]
theorem inter_screen {r : DRect} : (rectG (r.inter DRect.screen)).eqv (rectG r) := fun y x hy hx => by
  show (r.inter DRect.screen).holds y x = r.holds y x
  rw [inter_holds screen_ok]
  have : DRect.screen.holds y x = true := by unfold DRect.holds DRect.has; exact decide_eq_true ⟨screen_ok, by unfold DRect.screen; dsimp only; omega⟩
  rw [this, Bool.and_true]

/-! a row as a number -/
def bits (f : Nat → Bool) : Nat → Nat
  | 0 => 0
  | n + 1 => bits f n + (if f n = true then 2 ^ n else 0)
theorem bits_lt (f : Nat → Bool) : ∀ n, bits f n < 2 ^ n
  | 0 => by simp [bits]
  | n + 1 => by have := bits_lt f n; simp only [bits]; rw [Nat.pow_succ]; split <;> omega
theorem bits_testBit (f : Nat → Bool) : ∀ n i, (bits f n).testBit i = (decide (i < n) && f i)
  | 0, i => by simp [bits]
  | n + 1, i => by
    have hl := bits_lt f n
    have ih := bits_testBit f n i
    simp only [bits]
    cases hf : f n
    · simp only [Bool.false_eq_true, if_false, Nat.add_zero, ih]
      by_cases e : i = n
      · subst e; simp [hf]
      · by_cases h : i < n
        · simp [h, show i < n + 1 by omega]
        · simp [h, show ¬ i < n + 1 by omega]
    · simp only [if_true]
      rw [Nat.add_comm]
      by_cases e : i = n
      · subst e
        rw [Nat.testBit_two_pow_add_eq]
        rw [Nat.testBit_lt_two_pow hl]
        simp [hf]
      · by_cases h : i < n
        · rw [Nat.testBit_two_pow_add_gt h, ih]
          simp [h, show i < n + 1 by omega]
        · have : 2 ^ n + bits f n < 2 ^ i := by
            have h2 : 2 ^ (n + 1) ≤ 2 ^ i := Nat.pow_le_pow_right (by omega) (by omega)
            rw [Nat.pow_succ] at h2; omega
          rw [Nat.testBit_lt_two_pow this]
          simp [show ¬ i < n + 1 by omega]
theorem bits_or (f g : Nat → Bool) (n : Nat) : bits f n ||| bits g n = bits (fun i => f i || g i) n := by
  apply Nat.eq_of_testBit_eq; intro i
  rw [Nat.testBit_or, bits_testBit, bits_testBit, bits_testBit]; cases decide (i < n) <;> simp
theorem bits_and (f g : Nat → Bool) (n : Nat) : bits f n &&& bits g n = bits (fun i => f i && g i) n := by
  apply Nat.eq_of_testBit_eq; intro i
  rw [Nat.testBit_and, bits_testBit, bits_testBit, bits_testBit]; cases decide (i < n) <;> simp
theorem bits_congr {f g : Nat → Bool} : ∀ n, (∀ i, i < n → f i = g i) → bits f n = bits g n
  | 0, _ => rfl
  | n + 1, h => by simp only [bits]; rw [bits_congr n (fun i hi => h i (by omega)), h n (by omega)]
theorem bits_inj {f g : Nat → Bool} {n : Nat} : bits f n = bits g n ↔ ∀ i, i < n → f i = g i := by
  refine ⟨fun h i hi => ?_, bits_congr n⟩
  have h1 := bits_testBit f n i
  rw [h, bits_testBit] at h1
  simpa [hi] using h1.symm
theorem bits_span {X W n : Nat} (h : X + W ≤ n) : (2 ^ W - 1) * 2 ^ X = bits (fun i => decide (X ≤ i ∧ i < X + W)) n := by
  apply Nat.eq_of_testBit_eq; intro i
  rw [bits_testBit, ← Nat.shiftLeft_eq, Nat.testBit_shiftLeft, Nat.testBit_two_pow_sub_one]
  by_cases h1 : X ≤ i <;> by_cases h2 : i < X + W
  · simp [h1, h2, show i - X < W by omega, show i < n by omega]
  · simp [h1, h2, show ¬ i - X < W by omega]
  · simp [h1]
  · simp [h1]
theorem bits_and_bit (f : Nat → Bool) {n x : Nat} (hx : x < n) : bits f n &&& 2 ^ x = if f x = true then 2 ^ x else 0 := by
  apply Nat.eq_of_testBit_eq; intro i
  rw [Nat.testBit_and, bits_testBit, Nat.testBit_two_pow]
  by_cases e : x = i
  · subst e
    cases f x <;> simp [hx, Nat.testBit_two_pow_self]
  · cases f x <;> simp [e]
theorem bits_bit_ne {f : Nat → Bool} {n x : Nat} (hx : x < n) : ((bits f n &&& 2 ^ x : Nat) : Int) ≠ 0 ↔ f x = true := by
  rw [bits_and_bit f hx]
  split
  · rename_i h; rw [h]; have : 0 < 2 ^ x := Nat.pos_of_ne_zero (by simp); exact ⟨fun _ => rfl, fun _ => by omega⟩
  · rename_i h; simp [h]
theorem bits_and_le (f g : Nat → Bool) : ∀ n, bits (fun i => f i && g i) n ≤ bits f n
  | 0 => Nat.le_refl _
  | n + 1 => by
    have := bits_and_le f g n
    rcases Bool.eq_false_or_eq_true (f n) with hf | hf <;> rcases Bool.eq_false_or_eq_true (g n) with hg | hg <;> simp [bits, hf, hg] <;> (try generalize 2 ^ n = z at *) <;> omega
theorem bits_without (f g : Nat → Bool) : ∀ n, bits f n - (bits f n &&& bits g n) = bits (fun i => f i && !g i) n := by
  intro n
  rw [bits_and]
  induction n with
  | zero => rfl
  | succ n ih =>
    have h1 := bits_and_le f g n
    rcases Bool.eq_false_or_eq_true (f n) with hf | hf <;> rcases Bool.eq_false_or_eq_true (g n) with hg | hg <;> simp [bits, hf, hg] <;> (try generalize 2 ^ n = z at *) <;> omega
end Sx
