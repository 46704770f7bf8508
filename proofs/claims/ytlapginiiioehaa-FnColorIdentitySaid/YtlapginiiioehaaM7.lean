/-
  The plain functions, continued: the identity of colors, ascending curves; beams in a frame. No program in sight.
-/
import Derived.Test.YtlapginiiioehaaM6
set_option linter.unusedVariables false
namespace Sx
/-! ### chapter 8 -/
def idColor : DColor := ⟨[256, 0, 0, 0, 256, 0, 0, 0, 256], (List.range 17).map (fun k : Nat => 16 * (k : Int))⟩
theorem idColor_ok : idColor.ok := by decide
theorem idCurve_get {k : Nat} (h : k < 17) : idColor.curve.getD k 0 = 16 * (k : Int) := by
  simp [idColor, List.getD_eq_getElem?_getD, h]
theorem id_mix (row : Nat) (hr : row < 3) (r g b : Int) (h1 : byteP r) (h2 : byteP g) (h3 : byteP b) : mixRow idColor row r g b = if row = 0 then r else if row = 1 then g else b := by
  unfold byteP at h1 h2 h3
  match row, hr with
  | 0, _ => simp [mixRow, idColor]; omega
  | 1, _ => simp [mixRow, idColor]; omega
  | 2, _ => simp [mixRow, idColor]; omega
theorem id_curve {v : Int} (h : byteP v) : curveVal idColor v = v := by
  unfold byteP at h
  unfold curveVal
  rw [idCurve_get (by omega), idCurve_get (by omega)]
  have e : ((v / 16).toNat : Int) = v / 16 := by omega
  have e2 : (((v / 16).toNat + 1 : Nat) : Int) = v / 16 + 1 := by omega
  rw [e, e2]
  have : (16 * (v / 16 + 1) - 16 * (v / 16)) * (v % 16) = 16 * (v % 16) := by congr 1; omega
  rw [this]
  omega
theorem chans {p : Int} (h : pixP p) : ((chan p 0 * 256 + chan p 1) * 256 + chan p 2) * 256 + chan p 3 = p := by
  unfold pixP at h
  unfold chan
  have e0 : (24 - 8 * (0 : Int)).toNat = 24 := rfl
  have e1 : (24 - 8 * (1 : Int)).toNat = 16 := rfl
  have e2 : (24 - 8 * (2 : Int)).toNat = 8 := rfl
  have e3 : (24 - 8 * (3 : Int)).toNat = 0 := rfl
  rw [e0, e1, e2, e3]
  omega
theorem id_pixel {p : Int} (h : pixP p) : colorPixel idColor p = p := by
  unfold colorPixel
  rw [if_pos ⟨idColor_ok, h⟩]
  unfold colored
  rw [id_mix 0 (by omega) _ _ _ (chan_bd p 1) (chan_bd p 2) (chan_bd p 3), id_mix 1 (by omega) _ _ _ (chan_bd p 1) (chan_bd p 2) (chan_bd p 3), id_mix 2 (by omega) _ _ _ (chan_bd p 1) (chan_bd p 2) (chan_bd p 3)]
  rw [if_pos rfl, if_neg (by omega), if_pos rfl, if_neg (by omega), if_neg (by omega)]
  rw [id_curve (chan_bd p 1), id_curve (chan_bd p 2), id_curve (chan_bd p 3)]
  exact chans h
/-- the alpha stays -/
theorem colored_alpha {m : DColor} (h : m.ok) {p : Int} (hp : pixP p) : channelOf (colorPixel m p) 0 = channelOf p 0 := by
  have hb := colored_bd h p
  unfold pixP at hp
  unfold colorPixel
  rw [if_pos ⟨h, hp⟩]
  unfold channelOf
  rw [if_pos (by omega), if_pos (by omega)]
  have h0 := chan_bd p 0
  have h1 := curveVal_bd h (mixRow m 0 (chan p 1) (chan p 2) (chan p 3))
  have h2 := curveVal_bd h (mixRow m 1 (chan p 1) (chan p 2) (chan p 3))
  have h3 := curveVal_bd h (mixRow m 2 (chan p 1) (chan p 2) (chan p 3))
  have e0 : (24 - 8 * (0 : Int)).toNat = 24 := rfl
  conv => lhs; unfold chan
  rw [e0]
  unfold colored
  omega
/-- ascending points -/
def ascends (l : List Int) : Prop := ∀ i : Nat, i + 1 < l.length → l.getD i 0 ≤ l.getD (i + 1) 0
theorem ascends_le {l : List Int} (h : ascends l) {i j : Nat} (hij : i ≤ j) (hj : j < l.length) : l.getD i 0 ≤ l.getD j 0 := by
  induction j with
  | zero => rw [show i = 0 by omega]; exact Int.le_refl _
  | succ j ih =>
    by_cases e : i = j + 1
    · rw [e]; exact Int.le_refl _
    · have := ih (by omega) (by omega)
      have := h j (by omega)
      omega
theorem curveVal_mono {m : DColor} (hm : m.ok) (ha : ascends m.curve) {a b : Int} (h0 : 0 ≤ a) (hab : a ≤ b) (hb : b ≤ 255) : curveVal m a ≤ curveVal m b := by
  have hlen := hm.2.1
  unfold curveVal
  have hA := ha (a / 16).toNat (by omega)
  have hB := ha (b / 16).toNat (by omega)
  by_cases e : a / 16 = b / 16
  · rw [e] at hA ⊢
    generalize m.curve.getD (b / 16).toNat 0 = p at *
    generalize m.curve.getD ((b / 16).toNat + 1) 0 = q at *
    have h1 : (q - p) * (a % 16) ≤ (q - p) * (b % 16) := Int.mul_le_mul_of_nonneg_left (by omega) (by omega)
    omega
  · have hle := ascends_le ha (i := (a / 16).toNat + 1) (j := (b / 16).toNat) (by omega) (by omega)
    generalize m.curve.getD (a / 16).toNat 0 = p at *
    generalize m.curve.getD ((a / 16).toNat + 1) 0 = q at *
    generalize m.curve.getD (b / 16).toNat 0 = r at *
    generalize m.curve.getD ((b / 16).toNat + 1) 0 = t at *
    have h1 : (q - p) * (a % 16) ≤ (q - p) * 16 := Int.mul_le_mul_of_nonneg_left (by omega) (by omega)
    have h2 : 0 ≤ (t - r) * (b % 16) := Int.mul_nonneg (by omega) (by omega)
    omega
theorem curveAt_mono {m : DColor} (hm : m.ok) (ha : ascends m.curve) {a b : Int} (h0 : 0 ≤ a) (hab : a ≤ b) (hb : b ≤ 255) : curveAt m a ≤ curveAt m b := by
  unfold curveAt byteP
  rw [if_pos ⟨hm, by omega⟩, if_pos ⟨hm, by omega⟩]
  exact curveVal_mono hm ha h0 hab hb

/-! ### chapter 16: beams -/
/-- how many places are active before place (x, y) of a frame -/
def actTo (m : DMode) (y x : Int) : Int := if y < m.H then y * m.W + min x m.W else m.H * m.W
def hsTo (m : DMode) (y x : Int) : Int := y * m.HSync + max 0 (min (x - m.W - m.HFront) m.HSync)
def vsTo (m : DMode) (y x : Int) : Int := max 0 (min (y - m.H - m.VFront) m.VSync) * lineTotal m + (if 0 ≤ y - m.H - m.VFront ∧ y - m.H - m.VFront ≤ m.VSync - 1 then x else 0)
def bx (m : DMode) (t : Int) : Int := t % lineTotal m
def by' (m : DMode) (t : Int) : Int := t / lineTotal m
def actP (m : DMode) (t : Int) : Prop := bx m t < m.W ∧ by' m t < m.H
def hsP (m : DMode) (t : Int) : Prop := 0 ≤ bx m t - m.W - m.HFront ∧ bx m t - m.W - m.HFront ≤ m.HSync - 1
def vsP (m : DMode) (t : Int) : Prop := 0 ≤ by' m t - m.H - m.VFront ∧ by' m t - m.H - m.VFront ≤ m.VSync - 1
instance (m : DMode) (t : Int) : Decidable (actP m t) := by unfold actP; infer_instance
instance (m : DMode) (t : Int) : Decidable (hsP m t) := by unfold hsP; infer_instance
instance (m : DMode) (t : Int) : Decidable (vsP m t) := by unfold vsP; infer_instance
theorem beam_next {m : DMode} (h : m.ok) {t : Int} (ht : 0 ≤ t) : (0 ≤ bx m t ∧ bx m t < lineTotal m ∧ 0 ≤ by' m t) ∧ ((bx m (t + 1) = bx m t + 1 ∧ by' m (t + 1) = by' m t ∧ bx m t + 1 < lineTotal m) ∨ (bx m (t + 1) = 0 ∧ by' m (t + 1) = by' m t + 1 ∧ bx m t + 1 = lineTotal m)) := by
  have hl := (line_bd m).2.2 h
  have h1 := Int.emod_nonneg t (b := lineTotal m) (by omega)
  have h2 := Int.emod_lt_of_pos t (b := lineTotal m) (by omega)
  have h3 : 0 ≤ t / lineTotal m := Int.ediv_nonneg ht (by omega)
  have h4 := Int.mul_ediv_add_emod t (lineTotal m)
  rw [Int.mul_comm] at h4
  unfold bx by'
  refine ⟨⟨h1, h2, h3⟩, ?_⟩
  by_cases e : t % lineTotal m + 1 < lineTotal m
  · have := row_mod (w := lineTotal m) (x := t % lineTotal m + 1) (y := t / lineTotal m) (by omega) h3
    have e2 : t / lineTotal m * lineTotal m + (t % lineTotal m + 1) = t + 1 := by omega
    rw [e2] at this
    exact .inl ⟨this.1, this.2, e⟩
  · have := row_mod (w := lineTotal m) (x := 0) (y := t / lineTotal m + 1) (by omega) (by omega)
    have e2 : (t / lineTotal m + 1) * lineTotal m + 0 = t + 1 := by rw [Int.add_mul, Int.one_mul]; omega
    rw [e2] at this
    exact .inr ⟨this.1, this.2, by omega⟩
theorem line_eq {m : DMode} (h : m.ok) : lineTotal m = m.W + m.HFront + m.HSync + m.HBack := by unfold lineTotal; rw [if_pos h]
theorem blank_eq {m : DMode} (h : m.ok) : blankLines m = m.VFront + m.VSync + m.VBack := by unfold blankLines; rw [if_pos h]
theorem step_of {a b : Int} {p : Prop} [Decidable p] (h : (p → a = b + 1) ∧ (¬ p → a = b)) : a = b + (if p then 1 else 0) := by
  by_cases hp : p
  · rw [if_pos hp]; exact h.1 hp
  · rw [if_neg hp, h.2 hp]; omega
/-- the next place -/
def nextP (m : DMode) (x y x' y' : Int) : Prop := (0 ≤ x ∧ x < lineTotal m ∧ 0 ≤ y) ∧ ((x' = x + 1 ∧ y' = y ∧ x + 1 < lineTotal m) ∨ (x' = 0 ∧ y' = y + 1 ∧ x + 1 = lineTotal m))
theorem act_step {m : DMode} (h : m.ok) {x y x' y' : Int} (hb : nextP m x y x' y') : ((x < m.W ∧ y < m.H) → actTo m y' x' = actTo m y x + 1) ∧ (¬ (x < m.W ∧ y < m.H) → actTo m y' x' = actTo m y x) := by
  have hl := line_eq h
  have h' := h
  unfold DMode.ok at h'
  unfold actTo
  obtain ⟨h0, ⟨rfl, rfl, h3⟩ | ⟨rfl, rfl, h3⟩⟩ := hb
  · by_cases hy : y' < m.H
    · rw [if_pos hy, if_pos hy]; constructor <;> (intro hh; omega)
    · rw [if_neg hy, if_neg hy]; constructor <;> (intro hh; omega)
  · by_cases hy : y + 1 < m.H
    · rw [if_pos hy, if_pos (by omega), Int.add_mul, Int.one_mul]; constructor <;> (intro hh; omega)
    · rw [if_neg hy]
      by_cases hy2 : y < m.H
      · have : m.H = y + 1 := by omega
        rw [if_pos hy2, this, Int.add_mul, Int.one_mul]; constructor <;> (intro hh; omega)
      · rw [if_neg hy2]; constructor <;> (intro hh; omega)
theorem hs_step {m : DMode} (h : m.ok) {x y x' y' : Int} (hb : nextP m x y x' y') : ((0 ≤ x - m.W - m.HFront ∧ x - m.W - m.HFront ≤ m.HSync - 1) → hsTo m y' x' = hsTo m y x + 1) ∧ (¬ (0 ≤ x - m.W - m.HFront ∧ x - m.W - m.HFront ≤ m.HSync - 1) → hsTo m y' x' = hsTo m y x) := by
  have hl := line_eq h
  have h' := h
  unfold DMode.ok at h'
  unfold hsTo
  obtain ⟨h0, ⟨rfl, rfl, h3⟩ | ⟨rfl, rfl, h3⟩⟩ := hb
  · constructor <;> (intro hh; omega)
  · rw [Int.add_mul, Int.one_mul]
    constructor <;> (intro hh; omega)
theorem vs_step {m : DMode} (h : m.ok) {x y x' y' : Int} (hb : nextP m x y x' y') : ((0 ≤ y - m.H - m.VFront ∧ y - m.H - m.VFront ≤ m.VSync - 1) → vsTo m y' x' = vsTo m y x + 1) ∧ (¬ (0 ≤ y - m.H - m.VFront ∧ y - m.H - m.VFront ≤ m.VSync - 1) → vsTo m y' x' = vsTo m y x) := by
  have h' := h
  unfold DMode.ok at h'
  unfold nextP at hb
  unfold vsTo
  generalize lineTotal m = LT at *
  obtain ⟨h0, ⟨rfl, rfl, h3⟩ | ⟨rfl, rfl, h3⟩⟩ := hb
  · constructor
    · intro hv; rw [if_pos hv, if_pos hv]; omega
    · intro hv; rw [if_neg hv, if_neg hv]
  · constructor
    · intro hv
      rw [if_pos hv]
      have e1 : max 0 (min (y + 1 - m.H - m.VFront) m.VSync) = max 0 (min (y - m.H - m.VFront) m.VSync) + 1 := by omega
      rw [e1, Int.add_mul, Int.one_mul]
      split <;> omega
    · intro hv
      rw [if_neg hv]
      have e1 : max 0 (min (y + 1 - m.H - m.VFront) m.VSync) = max 0 (min (y - m.H - m.VFront) m.VSync) := by omega
      rw [e1]
      split <;> omega
theorem act_next {m : DMode} (h : m.ok) {t : Int} (ht : 0 ≤ t) : actTo m (by' m (t + 1)) (bx m (t + 1)) = actTo m (by' m t) (bx m t) + (if actP m t then 1 else 0) := step_of (act_step h (beam_next h ht))
theorem hs_next {m : DMode} (h : m.ok) {t : Int} (ht : 0 ≤ t) : hsTo m (by' m (t + 1)) (bx m (t + 1)) = hsTo m (by' m t) (bx m t) + (if hsP m t then 1 else 0) := step_of (hs_step h (beam_next h ht))
theorem vs_next {m : DMode} (h : m.ok) {t : Int} (ht : 0 ≤ t) : vsTo m (by' m (t + 1)) (bx m (t + 1)) = vsTo m (by' m t) (bx m t) + (if vsP m t then 1 else 0) := step_of (vs_step h (beam_next h ht))
theorem beam_zero {m : DMode} (h : m.ok) : bx m 0 = 0 ∧ by' m 0 = 0 ∧ actTo m (by' m 0) (bx m 0) = 0 ∧ hsTo m (by' m 0) (bx m 0) = 0 ∧ vsTo m (by' m 0) (bx m 0) = 0 := by
  have h' := h
  unfold DMode.ok at h'
  have e1 : bx m 0 = 0 := Int.zero_emod _
  have e2 : by' m 0 = 0 := Int.zero_ediv _
  rw [e1, e2]
  refine ⟨rfl, rfl, ?_, ?_, ?_⟩
  · unfold actTo; rw [if_pos (by omega)]; omega
  · unfold hsTo; omega
  · unfold vsTo
    have e3 : max 0 (min (0 - m.H - m.VFront) m.VSync) = 0 := by omega
    rw [e3]; split <;> omega
theorem beam_end {m : DMode} (h : m.ok) : actTo m (by' m (frameTotal m)) (bx m (frameTotal m)) = m.W * m.H ∧ hsTo m (by' m (frameTotal m)) (bx m (frameTotal m)) = m.HSync * (m.H + blankLines m) ∧ vsTo m (by' m (frameTotal m)) (bx m (frameTotal m)) = m.VSync * lineTotal m := by
  have h' := h
  unfold DMode.ok at h'
  have hl := (line_bd m).2.2 h
  have hbl := blank_eq h
  have hr := row_mod (w := lineTotal m) (x := 0) (y := m.H + blankLines m) (by omega) (by omega)
  have hf : frameTotal m = (m.H + blankLines m) * lineTotal m + 0 := by unfold frameTotal; rw [if_pos h, Int.mul_comm]; omega
  have e1 : bx m (frameTotal m) = 0 := by unfold bx; rw [hf]; exact hr.1
  have e2 : by' m (frameTotal m) = m.H + blankLines m := by unfold by'; rw [hf]; exact hr.2
  rw [e1, e2]
  refine ⟨?_, ?_, ?_⟩
  · unfold actTo; rw [if_neg (by omega), Int.mul_comm]
  · unfold hsTo; rw [Int.mul_comm]; omega
  · unfold vsTo
    have e3 : max 0 (min (m.H + blankLines m - m.H - m.VFront) m.VSync) = m.VSync := by omega
    rw [e3, if_neg (by omega)]; omega
/-- an active place is the next one, row by row -/
theorem act_place {m : DMode} (h : m.ok) {t : Int} (ht : 0 ≤ t) (ha : actP m t) : actTo m (by' m t) (bx m t) % m.W = bx m t ∧ actTo m (by' m t) (bx m t) / m.W = by' m t ∧ 0 ≤ actTo m (by' m t) (bx m t) := by
  have hb := (beam_next h ht).1
  unfold actP at ha
  unfold actTo
  rw [if_pos ha.2, show min (bx m t) m.W = bx m t by omega]
  have := row_mod (w := m.W) (x := bx m t) (y := by' m t) (by omega) (by omega)
  have h2 : 0 ≤ by' m t * m.W := Int.mul_nonneg (by omega) (by omega)
  exact ⟨this.1, this.2, by omega⟩
end Sx
