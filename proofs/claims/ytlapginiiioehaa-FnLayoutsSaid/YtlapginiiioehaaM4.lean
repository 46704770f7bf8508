/-
  The plain functions, continued: images in memory. No program in sight.
-/
import Derived.Test.YtlapginiiioehaaM3
set_option linter.unusedVariables false
namespace Sx

theorem tiles_bd {n : Int} (h : 1 ≤ n ∧ n ≤ 16) : 1 ≤ tiles n ∧ tiles n ≤ 4 ∧ n ≤ 4 * tiles n := by unfold tiles; omega
theorem wordCount_in {w h lay : Int} (hw : 1 ≤ w ∧ w ≤ 16) (hh : 1 ≤ h ∧ h ≤ 16) (hl : lay = 0 ∨ lay = 1) : wordCount w h lay = if lay = 0 then w * h else 16 * (tiles w * tiles h) := by
  unfold wordCount
  rw [if_pos ⟨hw.1, hw.2, hh.1, hh.2⟩]
  rcases hl with rfl | rfl
  · rw [if_pos rfl, if_pos rfl]
  · rw [if_neg (by omega), if_pos rfl, if_neg (by omega)]
    generalize tiles w = a
    generalize tiles h = b
    rw [Int.mul_assoc, Int.mul_left_comm 4 b 4, ← Int.mul_assoc]
    omega
theorem wordCount_bd {w h lay : Int} (hw : 1 ≤ w ∧ w ≤ 16) (hh : 1 ≤ h ∧ h ≤ 16) (hl : lay = 0 ∨ lay = 1) : 1 ≤ wordCount w h lay ∧ wordCount w h lay ≤ 256 := by
  rw [wordCount_in hw hh hl]
  have h1 := tiles_bd hw
  have h2 := tiles_bd hh
  have h3 := mul_bd (a := tiles w) (b := tiles h) (A := 4) (B := 4) (by omega) (by omega)
  have h4 := mul_pos' (a := tiles w) (b := tiles h) h1.1 h2.1
  have h5 := side_mul (w := w) (h := h) ⟨hw.1, hw.2, hh.1, hh.2⟩
  split <;> omega
theorem wplace_bd {w h lay x y : Int} (hw : 1 ≤ w ∧ w ≤ 16) (hh : 1 ≤ h ∧ h ≤ 16) (hl : lay = 0 ∨ lay = 1) (hx : 0 ≤ x ∧ x < w) (hy : 0 ≤ y ∧ y < h) : 0 ≤ wplace w lay x y ∧ wplace w lay x y < wordCount w h lay := by
  rw [wordCount_in hw hh hl]
  unfold wplace
  rcases hl with rfl | rfl
  · rw [if_pos rfl, if_pos rfl]
    have := place_lt hx hy; omega
  · rw [if_neg (by omega), if_neg (by omega)]
    have h1 := tiles_bd hw
    have h2 := tiles_bd hh
    have := place_lt (w := tiles w) (h := tiles h) (x := x / 4) (y := y / 4) (by omega) (by omega)
    omega
theorem wplace_inj {w lay x y a b : Int} (hw : 1 ≤ w ∧ w ≤ 16) (hl : lay = 0 ∨ lay = 1) (hx : 0 ≤ x ∧ x < w) (hy : 0 ≤ y) (ha : 0 ≤ a ∧ a < w) (hb : 0 ≤ b) (e : wplace w lay x y = wplace w lay a b) : x = a ∧ y = b := by
  unfold wplace at e
  rcases hl with rfl | rfl
  · rw [if_pos rfl, if_pos rfl] at e
    have h1 := row_mod (w := w) hx hy
    have h2 := row_mod (w := w) ha hb
    rw [e] at h1
    omega
  · rw [if_neg (by omega), if_neg (by omega)] at e
    have ht := tiles_bd hw
    have h1 := row_mod (w := tiles w) (x := x / 4) (y := y / 4) (by omega) (by omega)
    have h2 := row_mod (w := tiles w) (x := a / 4) (y := b / 4) (by omega) (by omega)
    have h3 : y / 4 * tiles w + x / 4 = b / 4 * tiles w + a / 4 := by omega
    rw [h3] at h1
    omega
/-- the words behind the first k pixels -/
def wfill (i : DImg) (lay : Int) : Nat → List Int
  | 0 => List.replicate (wordCount i.W i.H lay).toNat 0
  | k + 1 => (wfill i lay k).set (wplace i.W lay ((k : Int) % i.W) ((k : Int) / i.W)).toNat (i.data.getD k 0)
theorem wfill_length (i : DImg) (lay : Int) : ∀ k, (wfill i lay k).length = (wordCount i.W i.H lay).toNat
  | 0 => by simp [wfill]
  | k + 1 => by simp [wfill, wfill_length i lay k]
theorem set_get {l : List Int} {q r : Nat} {v : Int} (hq : q < l.length) : (l.set q v).getD r 0 = if r = q then v else l.getD r 0 := by
  rw [List.getD_eq_getElem?_getD, List.getElem?_set]
  by_cases e : q = r
  · subst e; simp [hq]
  · rw [if_neg e, if_neg (fun h => e h.symm), List.getD_eq_getElem?_getD]
theorem wfill_get {i : DImg} (hi : i.ok) {lay : Int} (hl : lay = 0 ∨ lay = 1) {x y : Int} (hx : 0 ≤ x ∧ x < i.W) (hy : 0 ≤ y ∧ y < i.H) : ∀ k, k ≤ i.data.length → (wfill i lay k).getD (wplace i.W lay x y).toNat 0 = if y * i.W + x < k then i.at x y else 0
  | 0, _ => by
    have := place_lt hx hy
    rw [if_neg (by omega)]
    unfold wfill
    rw [List.getD_eq_getElem?_getD, List.getElem?_replicate]
    split <;> rfl
  | k + 1, hk => by
    have hm := mod_row (w := i.W) (q := k) hi.1.1
    have hd := div_lt (w := i.W) (h := i.H) (q := k) hi.1.1 (by rw [← hi.lenN]; omega)
    have hb1 := wplace_bd hi.1 hi.2.1 hl ⟨hm.1, hm.2.1⟩ ⟨hm.2.2.1, hd⟩
    have hb2 := wplace_bd hi.1 hi.2.1 hl hx hy
    have hp := place_lt hx hy
    unfold wfill
    rw [set_get (by rw [wfill_length]; omega), wfill_get hi hl hx hy k (by omega)]
    by_cases e : (wplace i.W lay x y).toNat = (wplace i.W lay ((k : Int) % i.W) ((k : Int) / i.W)).toNat
    · rw [if_pos e]
      have e2 := wplace_inj hi.1 hl hx hy.1 ⟨hm.1, hm.2.1⟩ hm.2.2.1 (show wplace i.W lay x y = _ by omega)
      have e3 : y * i.W + x = k := by rw [e2.1, e2.2]; exact hm.2.2.2
      rw [if_pos (by rw [e3]; push_cast; omega)]
      unfold DImg.at
      rw [e3]; simp
    · rw [if_neg e]
      have e3 : y * i.W + x ≠ k := fun h => e (by
        have := row_mod (w := i.W) hx hy.1
        rw [h] at this
        rw [this.1, this.2])
      by_cases e4 : y * i.W + x < k
      · rw [if_pos e4, if_pos (by push_cast; omega)]
      · rw [if_neg e4, if_neg (by push_cast; omega)]
/-- how many places from x on are true, at most n -/
def rl (f : Nat → Bool) : Nat → Nat → Nat
  | 0, _ => 0
  | n + 1, x => if f x = true then rl f n (x + 1) + 1 else 0
theorem rl_in {f : Nat → Bool} : ∀ {n x j : Nat}, j < rl f n x → f (x + j) = true
  | 0, x, j, h => by simp [rl] at h
  | n + 1, x, j, h => by
    unfold rl at h
    split at h
    · cases j with
      | zero => assumption
      | succ j => have := rl_in (f := f) (n := n) (x := x + 1) (j := j) (by omega); rwa [show x + 1 + j = x + (j + 1) by omega] at this
    · omega
theorem rl_end {f : Nat → Bool} : ∀ {n x m : Nat}, m < n → f (x + m) = false → f (x + rl f n x) = false ∧ rl f n x ≤ m
  | 0, x, m, h, _ => by omega
  | n + 1, x, m, h, hf => by
    unfold rl
    split
    · rename_i h1
      cases m with
      | zero => rw [Nat.add_zero] at hf; rw [hf] at h1; cases h1
      | succ m =>
        have := rl_end (f := f) (n := n) (x := x + 1) (m := m) (by omega) (by rwa [show x + 1 + m = x + (m + 1) by omega])
        rw [show x + (rl f n (x + 1) + 1) = x + 1 + rl f n (x + 1) by omega]
        exact ⟨this.1, by omega⟩
    · rename_i h1
      exact ⟨by simpa using h1, by omega⟩
theorem rl_eq {f : Nat → Bool} {n x m : Nat} (hm : m < n) (h1 : ∀ j, j < m → f (x + j) = true) (h2 : f (x + m) = false) : rl f n x = m := by
  have := rl_end (x := x) hm h2
  by_cases e : rl f n x = m
  · exact e
  · have h3 := h1 _ (show rl f n x < m by omega)
    rw [h3] at this; cases this.1
/-- does place e go on the run that begins at k -/
def goesOn (i : DImg) (k e : Nat) : Bool := decide ((e : Int) % i.W ≠ 0 ∧ i.data.getD e 0 = i.data.getD k 0)
def runAt (i : DImg) (k : Nat) : Nat := 1 + rl (goesOn i k) 17 (k + 1)
theorem mod_stop {w : Int} (hw : 1 ≤ w ∧ w ≤ 16) (k : Nat) : ∃ m, m < 16 ∧ ((k + 1 + m : Nat) : Int) % w = 0 := by
  have h1 := mod_row (w := w) (q := k) hw.1
  refine ⟨(w - 1 - (k : Int) % w).toNat, by omega, ?_⟩
  have e : ((k + 1 + (w - 1 - (k : Int) % w).toNat : Nat) : Int) = ((k : Int) / w + 1) * w := by
    rw [Int.add_mul, Int.one_mul]; push_cast; omega
  rw [e, Int.mul_emod_left]
theorem runAt_bd {i : DImg} (h : i.ok) {k : Nat} (hk : k < i.data.length) : 1 ≤ runAt i k ∧ k + runAt i k ≤ i.data.length ∧ ∀ j, j < runAt i k → i.data.getD (k + j) 0 = i.data.getD k 0 := by
  have hstop : ∃ m, m < 17 ∧ goesOn i k (k + 1 + m) = false ∧ k + 1 + m ≤ i.data.length := by
    -- the row's end
    have hm := mod_row (w := i.W) (q := k) h.1.1
    have hd := div_lt (w := i.W) (h := i.H) (q := k) h.1.1 (by rw [← h.lenN]; omega)
    refine ⟨(i.W - 1 - (k : Int) % i.W).toNat, by have := h.1.2; omega, ?_, ?_⟩
    · unfold goesOn
      apply decide_eq_false
      intro hh
      apply hh.1
      have e : ((k + 1 + (i.W - 1 - (k : Int) % i.W).toNat : Nat) : Int) = ((k : Int) / i.W + 1) * i.W := by
        rw [Int.add_mul, Int.one_mul]; push_cast; omega
      rw [e, Int.mul_emod_left]
    · have h2 : ((k : Int) / i.W + 1) * i.W ≤ i.H * i.W := Int.mul_le_mul_of_nonneg_right (by omega) (by omega)
      rw [Int.add_mul, Int.one_mul, Int.mul_comm i.H] at h2
      have := h.2.2.1
      omega
  obtain ⟨m, h1, h2, h3⟩ := hstop
  have he := rl_end (n := 17) h1 h2
  refine ⟨by unfold runAt; omega, by unfold runAt; omega, fun j hj => ?_⟩
  cases j with
  | zero => rfl
  | succ j =>
    have := rl_in (f := goesOn i k) (n := 17) (x := k + 1) (j := j) (by unfold runAt at hj; omega)
    rw [show k + 1 + j = k + (j + 1) by omega] at this
    unfold goesOn at this
    exact (of_decide_eq_true this).2
/-- a run that ends where the counting ends -/
theorem runAt_eq {i : DImg} (h : i.ok) {k n : Nat} (hn : 1 ≤ n) (hn2 : n ≤ 16) (h1 : ∀ j, 1 ≤ j → j < n → ((k + j : Nat) : Int) % i.W ≠ 0 ∧ i.data.getD (k + j) 0 = i.data.getD k 0) (h2 : ((k + n : Nat) : Int) % i.W = 0 ∨ i.data.getD (k + n) 0 ≠ i.data.getD k 0) : runAt i k = n := by
  have e1 : ∀ j, j < n - 1 → goesOn i k (k + 1 + j) = true := fun j hj => by
    have := h1 (j + 1) (by omega) (by omega)
    unfold goesOn
    rw [show k + 1 + j = k + (j + 1) by omega]
    exact decide_eq_true this
  have e2 : goesOn i k (k + 1 + (n - 1)) = false := by
    unfold goesOn
    rw [show k + 1 + (n - 1) = k + n by omega]
    exact decide_eq_false (fun hh => by rcases h2 with h2 | h2; exact hh.1 h2; exact h2 hh.2)
  have := rl_eq (n := 17) (by omega) e1 e2
  unfold runAt; omega
def runsF (i : DImg) : Nat → Nat → List Int
  | 0, _ => []
  | f + 1, k => if k < i.data.length then [(runAt i k : Int), i.data.getD k 0] ++ runsF i f (k + runAt i k) else []
def runs (i : DImg) (k : Nat) : List Int := runsF i (i.data.length - k) k
theorem runsF_fuel (i : DImg) : ∀ (f g k : Nat), i.data.length - k ≤ f → i.data.length - k ≤ g → runsF i f k = runsF i g k
  | 0, 0, k, _, _ => rfl
  | 0, g + 1, k, hf, _ => by unfold runsF; rw [if_neg (by omega)]
  | f + 1, 0, k, _, hg => by unfold runsF; rw [if_neg (by omega)]
  | f + 1, g + 1, k, hf, hg => by
    have : 1 ≤ runAt i k := by unfold runAt; omega
    unfold runsF
    by_cases hk : k < i.data.length
    · rw [if_pos hk, if_pos hk, runsF_fuel i f g _ (by omega) (by omega)]
    · rw [if_neg hk, if_neg hk]
theorem runs_done {i : DImg} {k : Nat} (h : i.data.length ≤ k) : runs i k = [] := by unfold runs; rw [show i.data.length - k = 0 by omega]; rfl
theorem runs_step {i : DImg} {k : Nat} (h : k < i.data.length) : runs i k = [(runAt i k : Int), i.data.getD k 0] ++ runs i (k + runAt i k) := by
  have : 1 ≤ runAt i k := by unfold runAt; omega
  unfold runs
  rw [show i.data.length - k = (i.data.length - k - 1) + 1 by omega]
  conv => lhs; unfold runsF
  rw [if_pos h, runsF_fuel i _ (i.data.length - (k + runAt i k)) _ (by omega) (by omega)]
theorem runs_length (i : DImg) : ∀ (n k : Nat), i.data.length - k ≤ n → (runs i k).length ≤ 2 * (i.data.length - k) ∧ (runs i k).length % 2 = 0
  | 0, k, h => by rw [runs_done (by omega)]; simp
  | n + 1, k, h => by
    by_cases hk : k < i.data.length
    · have h1 : 1 ≤ runAt i k := by unfold runAt; omega
      have := runs_length i n (k + runAt i k) (by omega)
      rw [runs_step hk]
      simp only [List.length_append, List.length_cons, List.length_nil]
      omega
    · rw [runs_done (by omega)]; simp
def storeImage (i : DImg) (lay : Int) : List Int × Bool := if i.ok ∧ (0 ≤ lay ∧ lay ≤ 2) then (if lay = 2 then runs i 0 else wfill i lay i.data.length, true) else ([], false)
/-- the pixels of runs; none if a run is out of range -/
def expandF (most : Int) : List Int → List Int → Option (List Int)
  | out, n :: p :: rest => if 1 ≤ n ∧ n ≤ most - out.length then expandF most (out ++ List.replicate n.toNat p) rest else none
  | out, _ => some out
def expand (most : Int) (words : List Int) : List Int := (expandF most [] words).getD []
def loadData (words : List Int) (w h lay : Int) : List Int :=
  if lay = 2 then expand (w * h) words else if wordCount w h lay = words.length then mapTo (fun x y => words.getD (wplace w lay x y).toNat 0) w (w * h).toNat else []
def loadOk (words : List Int) (w h lay : Int) : Prop := ((1 ≤ w ∧ w ≤ 16) ∧ (1 ≤ h ∧ h ≤ 16) ∧ (0 ≤ lay ∧ lay ≤ 2)) ∧ (⟨w, h, loadData words w h lay⟩ : DImg).ok ∧ (storeImage ⟨w, h, loadData words w h lay⟩ lay).1 = words
instance (words : List Int) (w h lay : Int) : Decidable (loadOk words w h lay) := by unfold loadOk; infer_instance
def loadImage (words : List Int) (w h lay : Int) : DImg × Bool := if loadOk words w h lay then (⟨w, h, loadData words w h lay⟩, true) else (DImg.zero, false)
theorem expandF_runs {i : DImg} (hi : i.ok) : ∀ (n k : Nat), i.data.length - k ≤ n → k ≤ i.data.length → expandF (i.W * i.H) (i.data.take k) (runs i k) = some i.data
  | 0, k, h, hk => by
    have : k = i.data.length := by omega
    rw [runs_done (by omega), this, List.take_length]; rfl
  | n + 1, k, h, hk => by
    by_cases hlt : k < i.data.length
    · have hr := runAt_bd hi hlt
      have hl := hi.2.2.1
      rw [runs_step hlt]
      show expandF (i.W * i.H) (i.data.take k) ((runAt i k : Int) :: i.data.getD k 0 :: runs i (k + runAt i k)) = _
      unfold expandF
      rw [if_pos ⟨by omega, by rw [List.length_take]; omega⟩]
      have e : i.data.take k ++ List.replicate (runAt i k : Int).toNat (i.data.getD k 0) = i.data.take (k + runAt i k) := by
        apply list_eq_getD
        · simp only [List.length_append, List.length_take, List.length_replicate, Int.toNat_natCast]; omega
        · intro q hq
          simp only [List.length_append, List.length_take, List.length_replicate, Int.toNat_natCast] at hq
          simp only [List.getD_eq_getElem?_getD, List.getElem?_append, List.length_take, Int.toNat_natCast, List.getElem?_take, List.getElem?_replicate]
          by_cases e : q < min k i.data.length
          · rw [if_pos e, if_pos (by omega), if_pos (by omega)]
          · rw [if_neg e, if_pos (by omega), if_pos (by omega), Option.getD_some]
            have := hr.2.2 (q - k) (by omega)
            simp only [List.getD_eq_getElem?_getD] at this
            rw [show k + (q - k) = q by omega] at this
            exact this.symm
      rw [e]
      exact expandF_runs hi n _ (by omega) hr.2.1
    · have : k = i.data.length := by omega
      rw [runs_done (by omega), this, List.take_length]; rfl
theorem expand_runs {i : DImg} (hi : i.ok) : expand (i.W * i.H) (runs i 0) = i.data := by
  have := expandF_runs hi i.data.length 0 (by omega) (by omega)
  unfold expand
  rw [List.take_zero] at this
  rw [this]; rfl
/-- what was stored can be loaded -/
theorem load_store {i : DImg} (hi : i.ok) {lay : Int} (hl : 0 ≤ lay ∧ lay ≤ 2) : loadImage (storeImage i lay).1 i.W i.H lay = (i, true) := by
  have hs : (storeImage i lay).1 = if lay = 2 then runs i 0 else wfill i lay i.data.length := by unfold storeImage; rw [if_pos ⟨hi, hl⟩]
  have hd : loadData (storeImage i lay).1 i.W i.H lay = i.data := by
    rw [hs]
    unfold loadData
    by_cases e : lay = 2
    · rw [if_pos e, if_pos e]; exact expand_runs hi
    · rw [if_neg e, if_neg e, wfill_length]
      have hl' : lay = 0 ∨ lay = 1 := by omega
      have hb := wordCount_bd hi.1 hi.2.1 hl'
      rw [if_pos (by omega)]
      conv => rhs; rw [hi.self]
      refine mapTo_congr hi.1.1 (fun x y h1 h2 h3 h4 => ?_)
      have hp := place_lt (w := i.W) (h := i.H) ⟨h1, h2⟩ ⟨h3, h4⟩
      have := hi.2.2.1
      rw [wfill_get hi hl' ⟨h1, h2⟩ ⟨h3, h4⟩ _ (Nat.le_refl _), if_pos (by omega)]
  unfold loadImage
  have hi' : (⟨i.W, i.H, loadData (storeImage i lay).1 i.W i.H lay⟩ : DImg) = i := by rw [hd]
  rw [if_pos]
  · rw [hi']
  · unfold loadOk
    rw [hi']
    exact ⟨⟨hi.1, hi.2.1, hl⟩, hi, rfl⟩
theorem zero_not_ok : ¬ DImg.zero.ok := by unfold DImg.zero DImg.ok; dsimp only; omega
theorem nodata_not_ok (w h : Int) : ¬ (⟨w, h, []⟩ : DImg).ok := fun hh => by have := hh.len; simp at this
/-- one word more is too much -/
theorem load_more {i : DImg} (hi : i.ok) {lay : Int} (hl : 0 ≤ lay ∧ lay ≤ 2) : (loadImage ((storeImage i lay).1 ++ [1]) i.W i.H lay).2 = false := by
  have hs : (storeImage i lay).1 = if lay = 2 then runs i 0 else wfill i lay i.data.length := by unfold storeImage; rw [if_pos ⟨hi, hl⟩]
  unfold loadImage
  rw [if_neg]
  rintro ⟨_, h2, h3⟩
  by_cases e : lay = 2
  · generalize (⟨i.W, i.H, loadData ((storeImage i lay).1 ++ [1]) i.W i.H lay⟩ : DImg) = c at h2 h3
    have hc : (storeImage c lay).1 = runs c 0 := by unfold storeImage; rw [if_pos ⟨h2, hl⟩, if_pos e]
    rw [hc, hs, if_pos e] at h3
    have h4 := congrArg List.length h3
    have h5 := (runs_length i _ 0 (Nat.le_refl _)).2
    have h6 := (runs_length c _ 0 (Nat.le_refl _)).2
    rw [List.length_append] at h4
    simp only [List.length_cons, List.length_nil] at h4
    omega
  · have hl' : lay = 0 ∨ lay = 1 := by omega
    have hb := wordCount_bd hi.1 hi.2.1 hl'
    have hd : loadData ((storeImage i lay).1 ++ [1]) i.W i.H lay = [] := by
      unfold loadData
      rw [if_neg e, if_neg]
      rw [hs, if_neg e, List.length_append, wfill_length]
      simp only [List.length_cons, List.length_nil]; omega
    rw [hd] at h2
    exact nodata_not_ok _ _ h2
end Sx
