/-
  How long stored images are.
-/
import Derived.Test.YtlapginiiioehaaM4
set_option linter.unusedVariables false
namespace Sx
theorem storeImage_len (i : DImg) (lay : Int) : (storeImage i lay).1.length ≤ 512 := by
  unfold storeImage
  split
  · rename_i h
    have hl := h.1.len
    dsimp only
    split
    · have := (runs_length i _ 0 (Nat.le_refl _)).1; omega
    · rw [wfill_length]
      have := wordCount_bd (lay := lay) h.1.1 h.1.2.1 (by omega)
      omega
  · simp
end Sx
