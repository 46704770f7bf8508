/-
  Rules for what the laws mark.
-/
import Derived.Test.YtfmjeakcfmmkfaaGreatK6
import Derived.Test.YtfmjeakcfmmkfaaGreatKF
set_option linter.unusedVariables false
namespace Go.Proofs.YtfmjeakcfmmkfaaGreat
open Go Sx
attribute [local irreducible] Exit.then Exit.inBlock bodyPost
theorem ditherImage_len (i : DImg) : (ditherImage i).length ≤ 256 := by
  unfold ditherImage; split
  · rename_i h; have := h.len; simp; omega
  · simp
theorem DImg.len_of {i : DImg} (h : i.ok ∨ i = DImg.zero) : i.data.length ≤ 256 := by
  rcases h with h | h
  · have := h.len; omega
  · rw [h]; simp [DImg.zero]
theorem pictureOf_len (s : DSurf) : (pictureOf s).data.length ≤ 256 := by
  by_cases h : s.ok
  · have := (pictureOf_ok h).len; omega
  · unfold pictureOf; rw [if_neg h]; simp [DImg.zero]
theorem colorImage_len (m : DColor) (i : DImg) : (colorImage m i).data.length ≤ 256 := by
  unfold colorImage; split
  · rename_i h; have := h.2.len; simp; omega
  · simp [DImg.zero]
theorem c_heldImg (p q : Int) (v : Value) (l : List Int) (k : Int) (w : World) (hv : RInts w v l) (hk : 0 ≤ k ∧ k + l.length ≤ 4611686018427387904) : SYields Tryz.prog 38 #[.agg #[.int .i64 p, .int .i64 q, v], .int .i64 k] (.int .i64 (heldI l k)) w := c_heldImage ⟨p, q, l⟩ v k w hv hk
section
variable {n : Nat} {lo : SMut} {s : World} {ops : Array Oper} {Q : Exit → Act → World → Prop} {E : SEnv} {L : SHeap} {dd : Nat} {ty : TypeId} {pos : String} {after : Array Edge} {rest : List Oper}
theorem s_markI (i : Nat) {v : Value} {l : List Int} {k : Int} {H : SPiece} {args : List Operand} {ts : Array TypeId} (ha : svals E args = some [v, .int .i64 k]) (hv : OInts 3 v l H) (hL : getL L i = some H) (hk : 0 ≤ k ∧ k + l.length ≤ 4611686018427387904) (hd : Nat.blt dd n = true)
    (c : ∀ H', OInts 3 v (iota k l.length) H' → WPL Tryz.prog n lo s ops Q rest ((dd, .int .i64 (k + l.length)) :: E) ([] :: setL L i H')) :
    WPL Tryz.prog n lo s ops Q (⟨some dd, .call { callee := .value (.func 32), args := args.toArray, argTypes := ts }, ty, pos, after, none⟩ :: rest) E L :=
  s_callG i (fun u H' F => u = .int .i64 (k + l.length) ∧ OInts 3 v (iota k l.length) H' ∧ F = []) ha hL (fun w hw hh hn => c_markIntS v l H k w hv hh hn hk) hd (fun v' H' F hu => by obtain ⟨rfl, hu, rfl⟩ := hu; exact c H' hu)
theorem s_markImg (i : Nat) {p q : Int} {v : Value} {l : List Int} {k : Int} {H : SPiece} {args : List Operand} {ts : Array TypeId} (ha : svals E args = some [.agg #[.int .i64 p, .int .i64 q, v], .int .i64 k]) (hv : OInts 3 v l H) (hL : getL L i = some H) (hk : 0 ≤ k ∧ k + l.length ≤ 4611686018427387904) (hd : Nat.blt dd n = true)
    (c : ∀ H', OInts 3 v (iota k l.length) H' → WPL Tryz.prog n lo s ops Q rest ((dd, .int .i64 (k + l.length)) :: E) ([] :: setL L i H')) :
    WPL Tryz.prog n lo s ops Q (⟨some dd, .call { callee := .value (.func 37), args := args.toArray, argTypes := ts }, ty, pos, after, none⟩ :: rest) E L :=
  s_callG i (fun u H' F => u = .int .i64 (k + l.length) ∧ OInts 3 v (iota k l.length) H' ∧ F = []) ha hL (fun w hw hh hn => c_markImage ⟨p, q, l⟩ v H k w hv hh hn hk) hd (fun v' H' F hu => by obtain ⟨rfl, hu, rfl⟩ := hu; exact c H' hu)
end
end Go.Proofs.YtfmjeakcfmmkfaaGreat
