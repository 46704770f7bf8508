/-
  The plain functions, continued: damage as regions; painting into an image; chains of buffers. No program in sight.
-/
import Derived.Test.YtfmjeakcfmmkfaaGreatM8
set_option linter.unusedVariables false
namespace Sx
/-! ### chapter 13 -/
/-- the points of the damage -/
def damG (a b : DScene) : Grid := fun y x =>
  a.ss.any (fun s => !decide (s ∈ b.ss) && (surfRect s).holds y x) || b.ss.any (fun s => !decide (s ∈ a.ss) && (surfRect s).holds y x) ||
  (List.range b.ss.length).any (fun i => (List.range i).any (fun k => decide (0 ≤ surfaceIndex a.ss (b.ss.getD i default).Id ∧ surfaceIndex a.ss (b.ss.getD i default).Id < surfaceIndex a.ss (b.ss.getD k default).Id) && ((surfRect (b.ss.getD i default)).holds y x && (surfRect (b.ss.getD k default)).holds y x)))
theorem damG_iff (a b : DScene) (y x : Nat) : damG a b y x = true ↔ damP a b x y := by
  unfold damG damP DRect.holds
  simp only [Bool.or_eq_true, List.any_eq_true, Bool.and_eq_true, Bool.not_eq_true', decide_eq_true_iff, decide_eq_false_iff_not, List.mem_range]
  constructor
  · rintro ((⟨s, h1, h2, h3⟩ | ⟨s, h1, h2, h3⟩) | ⟨i, hi, k, hk, ⟨h1, h2⟩, h3, h4⟩)
    · exact .inl ⟨s, h1, h2, h3⟩
    · exact .inr (.inl ⟨s, h1, h2, h3⟩)
    · exact .inr (.inr ⟨i, k, hk, hi, h1, h2, h3, h4⟩)
  · rintro (⟨s, h1, h2, h3⟩ | ⟨s, h1, h2, h3⟩ | ⟨i, k, hk, hi, h1, h2, h3, h4⟩)
    · exact .inl (.inl ⟨s, h1, h2, h3⟩)
    · exact .inl (.inr ⟨s, h1, h2, h3⟩)
    · exact .inr ⟨i, hi, k, hk, ⟨h1, h2⟩, h3, h4⟩
def sameSize (a b : DScene) : Prop := a.W = b.W ∧ a.H = b.H
instance (a b : DScene) : Decidable (sameSize a b) := by unfold sameSize; infer_instance
def damageOf (a b : DScene) : List DRect :=
  if a.ok ∧ b.ok then (if sameSize a b ∧ a.Back = b.Back then canon ((damG a b).and (scrG b)) else canon (scrG b)) else []
theorem canon_empty {g : Grid} (h : g.eqv Grid.none) : canon g = [] := by
  rw [canon_congr h]; decide +kernel
theorem regionOk_nil : regionOk [] := by unfold regionOk; exact canon_empty (fun _ _ _ _ => rfl)
theorem damageOf_ok (a b : DScene) : regionOk (damageOf a b) := by
  unfold damageOf
  split
  · split
    · exact regionOk_canon _
    · exact regionOk_canon _
  · exact regionOk_nil
theorem scr_lt {s : DScene} (h : s.ok) {y x : Nat} (hs : scrG s y x = true) : y < 16 ∧ x < 16 := by
  have := (scrG_iff h y x).1 hs
  have h1 := h.1; have h2 := h.2.1
  omega
/-- outside of the damage two scenes of one size look the same -/
theorem damage_same {a b : DScene} (ha : a.ok) (hb : b.ok) (hsz : sameSize a b) {y x : Nat} (hs : scrG b y x = true) (hd : points (damageOf a b) y x = false) : paintF a x y = paintF b x y := by
  have hl := scr_lt hb hs
  unfold damageOf at hd
  rw [if_pos ⟨ha, hb⟩] at hd
  by_cases hB : sameSize a b ∧ a.Back = b.Back
  · rw [if_pos hB, points_canon _ y x hl.1 hl.2] at hd
    unfold Grid.and at hd
    rw [hs, Bool.and_true] at hd
    refine paintF_same ha hb hB.2 (fun hh => ?_)
    rw [(damG_iff a b y x).2 hh] at hd
    cases hd
  · rw [if_neg hB, points_canon _ y x hl.1 hl.2, hs] at hd; cases hd
theorem damage_self {a : DScene} (ha : a.ok) : damageOf a a = [] := by
  unfold damageOf
  rw [if_pos ⟨ha, ha⟩, if_pos ⟨⟨rfl, rfl⟩, rfl⟩]
  refine canon_empty (fun y x _ _ => ?_)
  unfold Grid.and Grid.none
  have : damG a a y x = false := by
    cases h : damG a a y x
    · rfl
    · exact absurd ((damG_iff a a y x).1 h) (not_damP_self ha x y)
  rw [this, Bool.false_and]
/-! ### copying the pixels of a region -/
def copyF (to fr : DImg) (g : Grid) (x y : Int) : Int := if g y.toNat x.toNat = true ∧ x < fr.W ∧ y < fr.H then fr.at x y else to.at x y
def copyRegion (to fr : DImg) (r : List DRect) : DImg := if to.ok ∧ fr.ok ∧ regionOk r then fimg (copyF to fr (points r)) to.W to.H else to
theorem copyRegion_ok {to fr : DImg} (h : to.ok) (r : List DRect) : (copyRegion to fr r).ok := by
  unfold copyRegion
  split
  · rename_i hh
    exact fimg_ok h.1 h.2.1 (fun x y _ _ _ _ => by unfold copyF; split <;> exact DImg.ok.at_pix (by first | exact hh.2.1 | exact h) _ _)
  · exact h
theorem copyRegion_size (to fr : DImg) (r : List DRect) : (copyRegion to fr r).W = to.W ∧ (copyRegion to fr r).H = to.H := by
  unfold copyRegion; split <;> exact ⟨rfl, rfl⟩
theorem copyRegion_at {to fr : DImg} (ht : to.ok) (hf : fr.ok) {r : List DRect} (hr : regionOk r) (hw : to.W = fr.W) (hh : to.H = fr.H) {x y : Int} (hx : 0 ≤ x ∧ x < to.W) (hy : 0 ≤ y ∧ y < to.H) :
    (copyRegion to fr r).at x y = if points r y.toNat x.toNat = true then fr.at x y else to.at x y := by
  unfold copyRegion
  rw [if_pos ⟨ht, hf, hr⟩, fimg_at _ hx hy]
  unfold copyF
  by_cases h : points r y.toNat x.toNat = true
  · rw [if_pos ⟨h, by omega, by omega⟩, if_pos h]
  · rw [if_neg (fun e => h e.1), if_neg h]
def paintInto (i : DImg) (s : DScene) (r : List DRect) : DImg := if s.ok then copyRegion i (painted s) r else i
/-- repainting the damage turns one scene's image into the other's -/
theorem repaired {a b : DScene} (ha : a.ok) (hb : b.ok) (hsz : sameSize a b) : paintInto (painted a) b (damageOf a b) = painted b := by
  unfold paintInto
  rw [if_pos hb]
  have hp := painted_ok ha
  have hq := painted_ok hb
  have hw : (painted a).W = (painted b).W := hsz.1
  have hh : (painted a).H = (painted b).H := hsz.2
  have hcs := copyRegion_size (painted a) (painted b) (damageOf a b)
  refine DImg.ext' (copyRegion_ok hp _) hq (by rw [hcs.1, hw]) (by rw [hcs.2, hh]) (fun x y h1 h2 h3 h4 => ?_)
  rw [hcs.1] at h2
  rw [hcs.2] at h4
  rw [copyRegion_at hp hq (damageOf_ok a b) hw hh ⟨h1, h2⟩ ⟨h3, h4⟩]
  split
  · rfl
  · rename_i hd
    have h2' : x < b.W := by rw [hw] at h2; exact h2
    have h4' : y < b.H := by rw [hh] at h4; exact h4
    have hs : scrG b y.toNat x.toNat = true := (scrG_iff hb _ _).2 ⟨by omega, by omega⟩
    have := damage_same ha hb hsz hs (by simpa using hd)
    rw [show ((x.toNat : Nat) : Int) = x by omega, show ((y.toNat : Nat) : Int) = y by omega] at this
    have e1 : (painted a).at x y = paintF a x y := fimg_at (paintF a) (w := a.W) (h := a.H) ⟨h1, h2⟩ ⟨h3, h4⟩
    have e2 : (painted b).at x y = paintF b x y := fimg_at (paintF b) (w := b.W) (h := b.H) ⟨h1, h2'⟩ ⟨h3, h4'⟩
    rw [e1, e2]; exact this
end Sx
