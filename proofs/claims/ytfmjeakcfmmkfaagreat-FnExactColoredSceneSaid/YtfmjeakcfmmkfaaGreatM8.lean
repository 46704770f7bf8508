/-
  The plain functions, continued: what is covered, what can be seen; painting only that. No program in sight.
-/
import Derived.Test.YtfmjeakcfmmkfaaGreatM5
set_option linter.unusedVariables false
namespace Sx
/-- the screen of a scene -/
def scrR (s : DScene) : DRect := ⟨0, 0, s.W, s.H⟩
def scrG (s : DScene) : Grid := rectG (scrR s)
theorem scrR_ok {s : DScene} (h : s.ok) : (scrR s).ok := by
  have h1 := h.1; have h2 := h.2.1
  unfold scrR DRect.ok; dsimp only; omega
theorem scrG_iff {s : DScene} (h : s.ok) (y x : Nat) : scrG s y x = true ↔ (x : Int) < s.W ∧ (y : Int) < s.H := by
  show decide ((scrR s).has x y) = true ↔ _
  rw [decide_eq_true_iff]
  unfold DRect.has
  constructor
  · intro hh; have := hh.2; unfold scrR at this; dsimp only at this; omega
  · intro hh; exact ⟨scrR_ok h, by unfold scrR; dsimp only; omega⟩
/-- does this surface cover the point -/
def hides (q : DSurf) (y x : Nat) : Bool := decide (isOpaqueS q) && (surfRect q).holds y x
/-- covered by opaque surfaces from number n on -/
def coverG (s : DScene) (n : Nat) : Grid := Grid.and (fun y x => (s.ss.drop n).any (fun q => hides q y x)) (scrG s)
/-- where surface number k can be seen -/
def seenG (s : DScene) (k : Nat) : Grid := ((rectG (surfRect (s.ss.getD k default))).and (scrG s)).without (coverG s (k + 1))
theorem drop_any {l : List DSurf} {n : Nat} {f : DSurf → Bool} : (l.drop n).any f = true ↔ ∃ i, n ≤ i ∧ i < l.length ∧ f (l.getD i default) = true := by
  rw [List.any_eq_true]
  constructor
  · rintro ⟨q, hq, hf⟩
    obtain ⟨i, hi, e⟩ := List.mem_iff_getElem.1 hq
    rw [List.length_drop] at hi
    rw [List.getElem_drop] at e
    exact ⟨n + i, by omega, by omega, by rw [List.getD_eq_getElem?_getD, List.getElem?_eq_getElem (by omega), Option.getD_some, e]; exact hf⟩
  · rintro ⟨i, h1, h2, hf⟩
    refine ⟨l.getD i default, ?_, hf⟩
    rw [List.getD_eq_getElem?_getD, List.getElem?_eq_getElem h2, Option.getD_some]
    exact List.mem_iff_getElem.2 ⟨i - n, by rw [List.length_drop]; omega, by rw [List.getElem_drop]; congr 1; omega⟩
/-- no opaque surface from number k on covers the point -/
def bare (s : DScene) (k y x : Nat) : Prop := ∀ i, k ≤ i → i < s.ss.length → hides (s.ss.getD i default) y x = false
theorem coverG_iff {s : DScene} {k y x : Nat} (hs : scrG s y x = true) : coverG s k y x = false ↔ bare s k y x := by
  unfold coverG Grid.and
  rw [hs, Bool.and_true]
  constructor
  · intro h i h1 h2
    cases hf : hides (s.ss.getD i default) y x
    · rfl
    · have := (drop_any (f := fun q => hides q y x)).2 ⟨i, h1, h2, hf⟩
      rw [show (s.ss.drop k).any (fun q => hides q y x) = false from h] at this; cases this
  · intro h
    show (s.ss.drop k).any (fun q => hides q y x) = false
    cases hf : (s.ss.drop k).any (fun q => hides q y x)
    · rfl
    · obtain ⟨i, h1, h2, h3⟩ := drop_any.1 hf
      rw [h i h1 h2] at h3; cases h3
theorem seenG_bare {s : DScene} {k y x : Nat} (hs : scrG s y x = true) (hb : bare s (k + 1) y x) : seenG s k y x = (surfRect (s.ss.getD k default)).holds y x := by
  unfold seenG Grid.without
  rw [(coverG_iff hs).2 hb]
  unfold Grid.and rectG
  rw [hs]; simp
/-- only what can be seen is painted: after n surfaces -/
def pvTo (s : DScene) : Nat → Nat → Nat → Int
  | 0, _, _ => s.Back
  | n + 1, x, y => if seenG s n y x = true then over (pixOf (s.ss.getD n default) x y) (pvTo s n x y) else pvTo s n x y
theorem getD_ok {s : DScene} (h : s.ok) {k : Nat} (hk : k < s.ss.length) : (s.ss.getD k default).ok := (h.2.2.2.2 k hk).1
theorem pvTo_pix {s : DScene} (h : s.ok) : ∀ n x y, n ≤ s.ss.length → pixP (pvTo s n x y)
  | 0, _, _, _ => h.back
  | n + 1, x, y, hn => by
    have ih := pvTo_pix h n x y (by omega)
    unfold pvTo
    split
    · have := over_bd ((pictureOf_ok (getD_ok h (show n < s.ss.length by omega))).at_pix (x - (s.ss.getD n default).X) (y - (s.ss.getD n default).Y)) ih
      show pixP (over ((pictureOf (s.ss.getD n default)).at (x - (s.ss.getD n default).X) (y - (s.ss.getD n default).Y)) (pvTo s n x y))
      unfold pixP; omega
    · exact ih
theorem layer_holds (q : DSurf) (x y : Nat) (b : Int) : layer q x y b = if (surfRect q).holds y x = true then over (pixOf q x y) b else b := by
  unfold layer DRect.holds
  by_cases h : (surfRect q).has x y
  · rw [if_pos h, if_pos (decide_eq_true h)]
  · rw [if_neg h, if_neg (by rw [decide_eq_false h]; simp)]
theorem pv_paint {s : DScene} (h : s.ok) {x y : Nat} (hs : scrG s y x = true) : ∀ k, k ≤ s.ss.length → bare s k y x → pvTo s k x y = paintTo s k x y
  | 0, _, _ => rfl
  | k + 1, hk, hb => by
    have hlt : k < s.ss.length := by omega
    rw [paintTo_succ hlt, layer_holds]
    unfold pvTo
    rw [seenG_bare hs hb]
    by_cases hc : hides (s.ss.getD k default) y x = true
    · unfold hides at hc
      rw [Bool.and_eq_true, decide_eq_true_iff] at hc
      rw [if_pos hc.2, if_pos hc.2]
      exact over_opaque (pixOf_opaque hc.1 (of_decide_eq_true hc.2)) (pvTo_pix h k x y (by omega)) (paintTo_pix h k x y)
    · have hb' : bare s k y x := fun i h1 h2 => by
        by_cases e : i = k
        · rw [e]; simpa using hc
        · exact hb i (by omega) h2
      rw [pv_paint h hs k (by omega) hb']
theorem pv_all {s : DScene} (h : s.ok) {x y : Nat} (hs : scrG s y x = true) : pvTo s s.ss.length x y = paintF s x y := by
  rw [← paintTo_all]
  exact pv_paint h hs _ (Nat.le_refl _) (fun i h1 h2 => by omega)
/-! surfaces that cannot be seen can be left out -/
/-- the first k surfaces but those that keep leaves out -/
def keptTo (s : DScene) (keep : Nat → Bool) : Nat → List DSurf
  | 0 => []
  | k + 1 => keptTo s keep k ++ (if keep k = true then [s.ss.getD k default] else [])
theorem kept_ok {s : DScene} (h : s.ok) (keep : Nat → Bool) : ∀ k, k ≤ s.ss.length → ∀ q ∈ keptTo s keep k, q.ok
  | 0, _, q, hq => by cases hq
  | k + 1, hk, q, hq => by
    unfold keptTo at hq
    rcases List.mem_append.1 hq with hq | hq
    · exact kept_ok h keep k (by omega) q hq
    · split at hq
      · rw [List.mem_singleton] at hq; rw [hq]; exact getD_ok h (by omega)
      · cases hq
theorem kept_paint {s : DScene} (h : s.ok) {keep : Nat → Bool} (hkeep : ∀ k y x, k < s.ss.length → y < 16 → x < 16 → seenG s k y x = true → keep k = true) {x y : Nat} (hx : x < 16) (hy : y < 16) (hs : scrG s y x = true) :
    ∀ k, k ≤ s.ss.length → bare s k y x → layers (keptTo s keep k) x y s.Back = paintTo s k x y
  | 0, _, _ => rfl
  | k + 1, hk, hb => by
    have hlt : k < s.ss.length := by omega
    have hsb := seenG_bare (k := k) hs hb
    unfold keptTo
    rw [paintTo_succ hlt, layers_append]
    have hp1 : pixP (layers (keptTo s keep k) x y s.Back) := layers_pix (kept_ok h keep k (by omega)) h.back
    by_cases hc : hides (s.ss.getD k default) y x = true
    · unfold hides at hc
      rw [Bool.and_eq_true, decide_eq_true_iff] at hc
      rw [if_pos (hkeep k y x hlt hy hx (by rw [hsb]; exact hc.2))]
      show layer (s.ss.getD k default) x y _ = _
      rw [layer_holds, layer_holds, if_pos hc.2, if_pos hc.2]
      exact over_opaque (pixOf_opaque hc.1 (of_decide_eq_true hc.2)) hp1 (paintTo_pix h k x y)
    · have hb' : bare s k y x := fun i h1 h2 => by
        by_cases e : i = k
        · rw [e]; simpa using hc
        · exact hb i (by omega) h2
      rw [kept_paint h hkeep hx hy hs k (by omega) hb']
      by_cases hh : (surfRect (s.ss.getD k default)).holds y x = true
      · rw [if_pos (hkeep k y x hlt hy hx (by rw [hsb]; exact hh))]; rfl
      · rw [layer_holds, if_neg hh]
        split
        · show layer (s.ss.getD k default) x y _ = _
          rw [layer_holds, if_neg hh]
        · rfl
end Sx
