/-
  What holds of dithered images. No program in sight.
-/
import Derived.Test.YtfjaogmmkfphfaaM6
set_option linter.unusedVariables false
namespace Sx
theorem ditherImage_length {i : DImg} (h : i.ok) : (ditherImage i).length = i.data.length := by unfold ditherImage; rw [if_pos h]; simp
theorem ditherImage_get {i : DImg} (h : i.ok) {k : Nat} (hk : k < i.data.length) : (ditherImage i).getD k 0 = ditherPixel (i.data.getD k 0) ((k : Int) % i.W) ((k : Int) / i.W) := by
  unfold ditherImage
  rw [if_pos h, List.getD_eq_getElem?_getD, List.getElem?_map, List.getElem?_range hk]
  rfl
theorem levelOf_green {p : Int} (hp : 0 ≤ p ∧ p ≤ 4294967295) (x y : Int) : levelOf (ditherPixel p x y) 1 = ditherLevel (chan p 2) x y ∧ 0 ≤ ditherPixel p x y ∧ ditherPixel p x y ≤ 262143 := by
  have h1 := ditherLevel_bd x y (chan_bd p 1)
  have h2 := ditherLevel_bd x y (chan_bd p 2)
  have h3 := ditherLevel_bd x y (chan_bd p 3)
  unfold ditherPixel levelOf
  rw [if_pos hp, if_pos (by omega)]
  have e : (12 - 6 * (1 : Int)).toNat = 6 := rfl
  rw [e]
  omega
theorem dith_lev {i : DImg} (h : i.ok) (k : Nat) (hk : k < (ditherImage i).length) : levelOf ((ditherImage i).getD (k : Int).toNat 0) 1 = ditherLevel (chan (i.data.getD (k : Int).toNat 0) 2) ((k : Int) % i.W) ((k : Int) / i.W) := by
  rw [ditherImage_length h] at hk
  rw [Int.toNat_natCast, ditherImage_get h hk]
  exact (levelOf_green (h.pix k) _ _).1
theorem dith_dot {i : DImg} (h : i.ok) (k : Nat) (hk : k < (ditherImage i).length) : (ditherImage i).getD (k : Int).toNat 0 = ditherPixel (i.data.getD (k : Int).toNat 0) ((k : Int) % i.W) ((k : Int) / i.W) := by
  rw [ditherImage_length h] at hk
  rw [Int.toNat_natCast, ditherImage_get h hk]
theorem dith_len {i : DImg} (h : i.ok) : ((ditherImage i).length : Int) = i.W * i.H := by rw [ditherImage_length h]; exact h.2.2.1
theorem dith_ok {i : DImg} (h : i.ok) : pictureOk (ditherImage i) i.W i.H := by
  refine ⟨h.1, h.2.1, dith_len h, fun k hk => ?_⟩
  rw [ditherImage_length h] at hk
  rw [ditherImage_get h hk]
  exact (levelOf_green (h.pix k) _ _).2
end Sx
