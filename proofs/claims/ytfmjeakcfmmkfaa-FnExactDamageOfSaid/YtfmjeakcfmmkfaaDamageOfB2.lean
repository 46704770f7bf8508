/-
  Texts that the law stands on, part 2: M8, M9, M13, M14, KZ, KS, L7, KY, K13, KU, L1, L2, M11, K12, M6.
-/
import Derived.Laws.StructEq
import Derived.Test.YtfmjeakcfmmkfaaDamageOfB1
/-
  The plain functions, continued: what is covered, what can be seen; painting only that. No program in sight.
-/
set_option linter.unusedVariables false
namespace Sx
/-- the screen of a scene -/
def scrR (s : DScene) : DRect := ⟨0, 0, s.W, s.H⟩
def scrG (s : DScene) : Grid := rectG (scrR s)
theorem scrR_ok {s : DScene} (h : s.ok) : (scrR s).ok := by
  have h1 := h.1; have h2 := h.2.1
  unfold scrR DRect.ok; dsimp only; omega
theorem scrG_iff {s : DScene} (h : s.ok) (y x : Nat) : scrG s y x = true ↔ (x : Int) < s.W ∧ (y : Int) < s.H := by
  show decide ((scrR s).has x y) = true ↔ _
  rw [decide_eq_true_iff]
  unfold DRect.has
  constructor
  · intro hh; have := hh.2; unfold scrR at this; dsimp only at this; omega
  · intro hh; exact ⟨scrR_ok h, by unfold scrR; dsimp only; omega⟩
/-- does this surface cover the point -/
def hides (q : DSurf) (y x : Nat) : Bool := decide (isOpaqueS q) && (surfRect q).holds y x
/-- covered by opaque surfaces from number n on -/
def coverG (s : DScene) (n : Nat) : Grid := Grid.and (fun y x => (s.ss.drop n).any (fun q => hides q y x)) (scrG s)
/-- where surface number k can be seen -/
def seenG (s : DScene) (k : Nat) : Grid := ((rectG (surfRect (s.ss.getD k default))).and (scrG s)).without (coverG s (k + 1))
theorem drop_any {l : List DSurf} {n : Nat} {f : DSurf → Bool} : (l.drop n).any f = true ↔ ∃ i, n ≤ i ∧ i < l.length ∧ f (l.getD i default) = true := by
  rw [List.any_eq_true]
  constructor
  · rintro ⟨q, hq, hf⟩
    obtain ⟨i, hi, e⟩ := List.mem_iff_getElem.1 hq
    rw [List.length_drop] at hi
    rw [List.getElem_drop] at e
    exact ⟨n + i, by omega, by omega, by rw [List.getD_eq_getElem?_getD, List.getElem?_eq_getElem (by omega), Option.getD_some, e]; exact hf⟩
  · rintro ⟨i, h1, h2, hf⟩
    refine ⟨l.getD i default, ?_, hf⟩
    rw [List.getD_eq_getElem?_getD, List.getElem?_eq_getElem h2, Option.getD_some]
    exact List.mem_iff_getElem.2 ⟨i - n, by rw [List.length_drop]; omega, by rw [List.getElem_drop]; congr 1; omega⟩
/-- no opaque surface from number k on covers the point -/
def bare (s : DScene) (k y x : Nat) : Prop := ∀ i, k ≤ i → i < s.ss.length → hides (s.ss.getD i default) y x = false
theorem coverG_iff {s : DScene} {k y x : Nat} (hs : scrG s y x = true) : coverG s k y x = false ↔ bare s k y x := by
  unfold coverG Grid.and
  rw [hs, Bool.and_true]
  constructor
  · intro h i h1 h2
    cases hf : hides (s.ss.getD i default) y x
    · rfl
    · have := (drop_any (f := fun q => hides q y x)).2 ⟨i, h1, h2, hf⟩
      rw [show (s.ss.drop k).any (fun q => hides q y x) = false from h] at this; cases this
  · intro h
    show (s.ss.drop k).any (fun q => hides q y x) = false
    cases hf : (s.ss.drop k).any (fun q => hides q y x)
    · rfl
    · obtain ⟨i, h1, h2, h3⟩ := drop_any.1 hf
      rw [h i h1 h2] at h3; cases h3
theorem seenG_bare {s : DScene} {k y x : Nat} (hs : scrG s y x = true) (hb : bare s (k + 1) y x) : seenG s k y x = (surfRect (s.ss.getD k default)).holds y x := by
  unfold seenG Grid.without
  rw [(coverG_iff hs).2 hb]
  unfold Grid.and rectG
  rw [hs]; simp
/-- only what can be seen is painted: after n surfaces -/
def pvTo (s : DScene) : Nat → Nat → Nat → Int
  | 0, _, _ => s.Back
  | n + 1, x, y => if seenG s n y x = true then over (pixOf (s.ss.getD n default) x y) (pvTo s n x y) else pvTo s n x y
theorem getD_ok {s : DScene} (h : s.ok) {k : Nat} (hk : k < s.ss.length) : (s.ss.getD k default).ok := (h.2.2.2.2 k hk).1
theorem pvTo_pix {s : DScene} (h : s.ok) : ∀ n x y, n ≤ s.ss.length → pixP (pvTo s n x y)
  | 0, _, _, _ => h.back
  | n + 1, x, y, hn => by
    have ih := pvTo_pix h n x y (by omega)
    unfold pvTo
    split
    · have := over_bd ((pictureOf_ok (getD_ok h (show n < s.ss.length by omega))).at_pix (x - (s.ss.getD n default).X) (y - (s.ss.getD n default).Y)) ih
      show pixP (over ((pictureOf (s.ss.getD n default)).at (x - (s.ss.getD n default).X) (y - (s.ss.getD n default).Y)) (pvTo s n x y))
      unfold pixP; omega
    · exact ih
theorem layer_holds (q : DSurf) (x y : Nat) (b : Int) : layer q x y b = if (surfRect q).holds y x = true then over (pixOf q x y) b else b := by
  unfold layer DRect.holds
  by_cases h : (surfRect q).has x y
  · rw [if_pos h, if_pos (decide_eq_true h)]
  · rw [if_neg h, if_neg (by rw [decide_eq_false h]; simp)]
theorem pv_paint {s : DScene} (h : s.ok) {x y : Nat} (hs : scrG s y x = true) : ∀ k, k ≤ s.ss.length → bare s k y x → pvTo s k x y = paintTo s k x y
  | 0, _, _ => rfl
  | k + 1, hk, hb => by
    have hlt : k < s.ss.length := by omega
    rw [paintTo_succ hlt, layer_holds]
    unfold pvTo
    rw [seenG_bare hs hb]
    by_cases hc : hides (s.ss.getD k default) y x = true
    · unfold hides at hc
      rw [Bool.and_eq_true, decide_eq_true_iff] at hc
      rw [if_pos hc.2, if_pos hc.2]
      exact over_opaque (pixOf_opaque hc.1 (of_decide_eq_true hc.2)) (pvTo_pix h k x y (by omega)) (paintTo_pix h k x y)
    · have hb' : bare s k y x := fun i h1 h2 => by
        by_cases e : i = k
        · rw [e]; simpa using hc
        · exact hb i (by omega) h2
      rw [pv_paint h hs k (by omega) hb']
theorem pv_all {s : DScene} (h : s.ok) {x y : Nat} (hs : scrG s y x = true) : pvTo s s.ss.length x y = paintF s x y := by
  rw [← paintTo_all]
  exact pv_paint h hs _ (Nat.le_refl _) (fun i h1 h2 => by omega)
/-! surfaces that cannot be seen can be left out -/
/-- the first k surfaces but those that keep leaves out -/
def keptTo (s : DScene) (keep : Nat → Bool) : Nat → List DSurf
  | 0 => []
  | k + 1 => keptTo s keep k ++ (if keep k = true then [s.ss.getD k default] else [])
theorem kept_ok {s : DScene} (h : s.ok) (keep : Nat → Bool) : ∀ k, k ≤ s.ss.length → ∀ q ∈ keptTo s keep k, q.ok
  | 0, _, q, hq => by cases hq
  | k + 1, hk, q, hq => by
    unfold keptTo at hq
    rcases List.mem_append.1 hq with hq | hq
    · exact kept_ok h keep k (by omega) q hq
    · split at hq
      · rw [List.mem_singleton] at hq; rw [hq]; exact getD_ok h (by omega)
      · cases hq
theorem kept_paint {s : DScene} (h : s.ok) {keep : Nat → Bool} (hkeep : ∀ k y x, k < s.ss.length → y < 16 → x < 16 → seenG s k y x = true → keep k = true) {x y : Nat} (hx : x < 16) (hy : y < 16) (hs : scrG s y x = true) :
    ∀ k, k ≤ s.ss.length → bare s k y x → layers (keptTo s keep k) x y s.Back = paintTo s k x y
  | 0, _, _ => rfl
  | k + 1, hk, hb => by
    have hlt : k < s.ss.length := by omega
    have hsb := seenG_bare (k := k) hs hb
    unfold keptTo
    rw [paintTo_succ hlt, layers_append]
    have hp1 : pixP (layers (keptTo s keep k) x y s.Back) := layers_pix (kept_ok h keep k (by omega)) h.back
    by_cases hc : hides (s.ss.getD k default) y x = true
    · unfold hides at hc
      rw [Bool.and_eq_true, decide_eq_true_iff] at hc
      rw [if_pos (hkeep k y x hlt hy hx (by rw [hsb]; exact hc.2))]
      show layer (s.ss.getD k default) x y _ = _
      rw [layer_holds, layer_holds, if_pos hc.2, if_pos hc.2]
      exact over_opaque (pixOf_opaque hc.1 (of_decide_eq_true hc.2)) hp1 (paintTo_pix h k x y)
    · have hb' : bare s k y x := fun i h1 h2 => by
        by_cases e : i = k
        · rw [e]; simpa using hc
        · exact hb i (by omega) h2
      rw [kept_paint h hkeep hx hy hs k (by omega) hb']
      by_cases hh : (surfRect (s.ss.getD k default)).holds y x = true
      · rw [if_pos (hkeep k y x hlt hy hx (by rw [hsb]; exact hh))]; rfl
      · rw [layer_holds, if_neg hh]
        split
        · show layer (s.ss.getD k default) x y _ = _
          rw [layer_holds, if_neg hh]
        · rfl
end Sx
/-
  The plain functions, continued: damage as regions; painting into an image; chains of buffers. No program in sight.
-/
set_option linter.unusedVariables false
namespace Sx
/-! ### chapter 13 -/
/-- the points of the damage -/
def damG (a b : DScene) : Grid := fun y x =>
  a.ss.any (fun s => !decide (s ∈ b.ss) && (surfRect s).holds y x) || b.ss.any (fun s => !decide (s ∈ a.ss) && (surfRect s).holds y x) ||
  (List.range b.ss.length).any (fun i => (List.range i).any (fun k => decide (0 ≤ surfaceIndex a.ss (b.ss.getD i default).Id ∧ surfaceIndex a.ss (b.ss.getD i default).Id < surfaceIndex a.ss (b.ss.getD k default).Id) && ((surfRect (b.ss.getD i default)).holds y x && (surfRect (b.ss.getD k default)).holds y x)))
theorem damG_iff (a b : DScene) (y x : Nat) : damG a b y x = true ↔ damP a b x y := by
  unfold damG damP DRect.holds
  simp only [Bool.or_eq_true, List.any_eq_true, Bool.and_eq_true, Bool.not_eq_true', decide_eq_true_iff, decide_eq_false_iff_not, List.mem_range]
  constructor
  · rintro ((⟨s, h1, h2, h3⟩ | ⟨s, h1, h2, h3⟩) | ⟨i, hi, k, hk, ⟨h1, h2⟩, h3, h4⟩)
    · exact .inl ⟨s, h1, h2, h3⟩
    · exact .inr (.inl ⟨s, h1, h2, h3⟩)
    · exact .inr (.inr ⟨i, k, hk, hi, h1, h2, h3, h4⟩)
  · rintro (⟨s, h1, h2, h3⟩ | ⟨s, h1, h2, h3⟩ | ⟨i, k, hk, hi, h1, h2, h3, h4⟩)
    · exact .inl (.inl ⟨s, h1, h2, h3⟩)
    · exact .inl (.inr ⟨s, h1, h2, h3⟩)
    · exact .inr ⟨i, hi, k, hk, ⟨h1, h2⟩, h3, h4⟩
def sameSize (a b : DScene) : Prop := a.W = b.W ∧ a.H = b.H
instance (a b : DScene) : Decidable (sameSize a b) := by unfold sameSize; infer_instance
def damageOf (a b : DScene) : List DRect :=
  if a.ok ∧ b.ok then (if sameSize a b ∧ a.Back = b.Back then canon ((damG a b).and (scrG b)) else canon (scrG b)) else []
theorem canon_empty {g : Grid} (h : g.eqv Grid.none) : canon g = [] := by
  rw [canon_congr h]; decide +kernel
theorem regionOk_nil : regionOk [] := by unfold regionOk; exact canon_empty (fun _ _ _ _ => rfl)
theorem damageOf_ok (a b : DScene) : regionOk (damageOf a b) := by
  unfold damageOf
  split
  · split
    · exact regionOk_canon _
    · exact regionOk_canon _
  · exact regionOk_nil
theorem scr_lt {s : DScene} (h : s.ok) {y x : Nat} (hs : scrG s y x = true) : y < 16 ∧ x < 16 := by
  have := (scrG_iff h y x).1 hs
  have h1 := h.1; have h2 := h.2.1
  omega
/-- outside of the damage two scenes of one size look the same -/
theorem damage_same {a b : DScene} (ha : a.ok) (hb : b.ok) (hsz : sameSize a b) {y x : Nat} (hs : scrG b y x = true) (hd : points (damageOf a b) y x = false) : paintF a x y = paintF b x y := by
  have hl := scr_lt hb hs
  unfold damageOf at hd
  rw [if_pos ⟨ha, hb⟩] at hd
  by_cases hB : sameSize a b ∧ a.Back = b.Back
  · rw [if_pos hB, points_canon _ y x hl.1 hl.2] at hd
    unfold Grid.and at hd
    rw [hs, Bool.and_true] at hd
    refine paintF_same ha hb hB.2 (fun hh => ?_)
    rw [(damG_iff a b y x).2 hh] at hd
    cases hd
  · rw [if_neg hB, points_canon _ y x hl.1 hl.2, hs] at hd; cases hd
theorem damage_self {a : DScene} (ha : a.ok) : damageOf a a = [] := by
  unfold damageOf
  rw [if_pos ⟨ha, ha⟩, if_pos ⟨⟨rfl, rfl⟩, rfl⟩]
  refine canon_empty (fun y x _ _ => ?_)
  unfold Grid.and Grid.none
  have : damG a a y x = false := by
    cases h : damG a a y x
    · rfl
    · exact absurd ((damG_iff a a y x).1 h) (not_damP_self ha x y)
  rw [this, Bool.false_and]
/-! ### copying the pixels of a region -/
def copyF (to fr : DImg) (g : Grid) (x y : Int) : Int := if g y.toNat x.toNat = true ∧ x < fr.W ∧ y < fr.H then fr.at x y else to.at x y
def copyRegion (to fr : DImg) (r : List DRect) : DImg := if to.ok ∧ fr.ok ∧ regionOk r then fimg (copyF to fr (points r)) to.W to.H else to
theorem copyRegion_ok {to fr : DImg} (h : to.ok) (r : List DRect) : (copyRegion to fr r).ok := by
  unfold copyRegion
  split
  · rename_i hh
    exact fimg_ok h.1 h.2.1 (fun x y _ _ _ _ => by unfold copyF; split <;> exact DImg.ok.at_pix (by first | exact hh.2.1 | exact h) _ _)
  · exact h
theorem copyRegion_size (to fr : DImg) (r : List DRect) : (copyRegion to fr r).W = to.W ∧ (copyRegion to fr r).H = to.H := by
  unfold copyRegion; split <;> exact ⟨rfl, rfl⟩
theorem copyRegion_at {to fr : DImg} (ht : to.ok) (hf : fr.ok) {r : List DRect} (hr : regionOk r) (hw : to.W = fr.W) (hh : to.H = fr.H) {x y : Int} (hx : 0 ≤ x ∧ x < to.W) (hy : 0 ≤ y ∧ y < to.H) :
    (copyRegion to fr r).at x y = if points r y.toNat x.toNat = true then fr.at x y else to.at x y := by
  unfold copyRegion
  rw [if_pos ⟨ht, hf, hr⟩, fimg_at _ hx hy]
  unfold copyF
  by_cases h : points r y.toNat x.toNat = true
  · rw [if_pos ⟨h, by omega, by omega⟩, if_pos h]
  · rw [if_neg (fun e => h e.1), if_neg h]
def paintInto (i : DImg) (s : DScene) (r : List DRect) : DImg := if s.ok then copyRegion i (painted s) r else i
/-- repainting the damage turns one scene's image into the other's -/
theorem repaired {a b : DScene} (ha : a.ok) (hb : b.ok) (hsz : sameSize a b) : paintInto (painted a) b (damageOf a b) = painted b := by
  unfold paintInto
  rw [if_pos hb]
  have hp := painted_ok ha
  have hq := painted_ok hb
  have hw : (painted a).W = (painted b).W := hsz.1
  have hh : (painted a).H = (painted b).H := hsz.2
  have hcs := copyRegion_size (painted a) (painted b) (damageOf a b)
  refine DImg.ext' (copyRegion_ok hp _) hq (by rw [hcs.1, hw]) (by rw [hcs.2, hh]) (fun x y h1 h2 h3 h4 => ?_)
  rw [hcs.1] at h2
  rw [hcs.2] at h4
  rw [copyRegion_at hp hq (damageOf_ok a b) hw hh ⟨h1, h2⟩ ⟨h3, h4⟩]
  split
  · rfl
  · rename_i hd
    have h2' : x < b.W := by rw [hw] at h2; exact h2
    have h4' : y < b.H := by rw [hh] at h4; exact h4
    have hs : scrG b y.toNat x.toNat = true := (scrG_iff hb _ _).2 ⟨by omega, by omega⟩
    have := damage_same ha hb hsz hs (by simpa using hd)
    rw [show ((x.toNat : Nat) : Int) = x by omega, show ((y.toNat : Nat) : Int) = y by omega] at this
    have e1 : (painted a).at x y = paintF a x y := fimg_at (paintF a) (w := a.W) (h := a.H) ⟨h1, h2⟩ ⟨h3, h4⟩
    have e2 : (painted b).at x y = paintF b x y := fimg_at (paintF b) (w := b.W) (h := b.H) ⟨h1, h2'⟩ ⟨h3, h4'⟩
    rw [e1, e2]; exact this
end Sx
/-
  The plain functions, continued: the points of rectangles, one by one. No program in sight.
-/
set_option linter.unusedVariables false
namespace Sx
/-- a rectangle is marked up to row j, and in that row up to place i -/
def boxG (r : DRect) (old : Grid) (j i : Nat) : Grid := fun b a => old b a || decide ((r.X ≤ (a : Int) ∧ (a : Int) < r.X + r.W ∧ r.Y ≤ (b : Int)) ∧ ((b : Int) < r.Y + j ∨ ((b : Int) = r.Y + j ∧ (a : Int) < r.X + i)))
def putG (g : Grid) (y x : Nat) : Grid := fun b a => if b = y ∧ a = x then true else g b a
theorem boxG_zero (r : DRect) (old : Grid) : (boxG r old 0 0).eqv old := fun b a _ _ => by
  unfold boxG; rw [decide_eq_false (by omega), Bool.or_false]
theorem boxG_next {r : DRect} {old : Grid} {j i : Nat} (h0 : 0 ≤ r.X ∧ 0 ≤ r.Y) (hi : (i : Int) < r.W) : (putG (boxG r old j i) (r.Y + j).toNat (r.X + i).toNat).eqv (boxG r old j (i + 1)) := fun b a _ _ => by
  unfold putG boxG
  by_cases e : b = (r.Y + j).toNat ∧ a = (r.X + i).toNat
  · rw [if_pos e, decide_eq_true (by push_cast; omega), Bool.or_true]
  · rw [if_neg e]
    congr 1
    exact decide_eq_decide.2 ⟨fun h => ⟨h.1, by push_cast; omega⟩, fun h => ⟨h.1, by have h2 := h.2; push_cast at h2; omega⟩⟩
theorem boxG_row {r : DRect} {old : Grid} {j i : Nat} (hi : r.W ≤ (i : Int)) : (boxG r old j i).eqv (boxG r old (j + 1) 0) := fun b a _ _ => by
  unfold boxG
  congr 1
  exact decide_eq_decide.2 ⟨fun h => ⟨h.1, by push_cast; omega⟩, fun h => ⟨h.1, by have h2 := h.2; push_cast at h2; omega⟩⟩
theorem boxG_all {r : DRect} (h : r.ok) {old : Grid} {j : Nat} (hj : r.H = (j : Int)) : (boxG r old j 0).eqv (old.or (rectG r)) := fun b a _ _ => by
  unfold boxG Grid.or rectG DRect.holds
  congr 1
  exact decide_eq_decide.2 ⟨fun hh => ⟨h, by omega⟩, fun hh => by have h2 := hh.2; omega⟩
theorem points_take {l : List DRect} {k : Nat} (h : k < l.length) : points (l.take (k + 1)) = (points (l.take k)).or (rectG (l.getD k DRect.zero)) := by
  rw [List.take_add_one, List.getElem?_eq_getElem h, Option.toList_some, points_congr_append, points_one]
  congr 2
  rw [List.getD_eq_getElem?_getD, List.getElem?_eq_getElem h]; rfl
theorem points_take_screen {l : List DRect} {k : Nat} (h : k < l.length) : ((points (l.take k)).or (rectG ((l.getD k DRect.zero).inter DRect.screen))).eqv (points (l.take (k + 1))) := by
  rw [points_take h]
  exact Grid.or_congr (Grid.eqv.refl _) inter_screen
end Sx
/-
  The plain functions, continued: regions joined place by place, areas, marks. No program in sight.
-/
set_option linter.unusedVariables false
namespace Sx
/-- the first j places are joined -/
def placeG (op : Bool → Bool → Bool) (g h : Grid) (j : Nat) : Grid := fun y x => if y * 16 + x < j then op (g y x) (h y x) else g y x
theorem placeG_zero (op : Bool → Bool → Bool) (g h : Grid) : placeG op g h 0 = g := by funext y x; unfold placeG; rw [if_neg (by omega)]
theorem placeG_all (op : Bool → Bool → Bool) (g h : Grid) {j : Nat} (hj : 256 ≤ j) : (placeG op g h j).eqv (fun y x => op (g y x) (h y x)) := fun y x hy hx => by unfold placeG; rw [if_pos (by omega)]
/-- or, and, without -/
def joinOp (kind : Int) (p q : Bool) : Bool := if kind = 0 then p || q else if kind = 1 then p && q else p && !q
def joinOf (kind : Int) (a c : List DRect) : List DRect := if regionOk a ∧ regionOk c then canon (fun y x => joinOp kind (points a y x) (points c y x)) else []
def withoutOf (a c : List DRect) : List DRect := if regionOk a ∧ regionOk c then canon ((points a).without (points c)) else []
def unionOf (a c : List DRect) : List DRect := if regionOk a ∧ regionOk c then canon ((points a).or (points c)) else []
theorem joinOf_two (a c : List DRect) : joinOf 2 a c = withoutOf a c := by
  unfold joinOf withoutOf
  split
  · exact canon_congr (fun y x _ _ => by simp [joinOp, Grid.without])
  · rfl
theorem joinOf_zero (a c : List DRect) : joinOf 0 a c = unionOf a c := by
  unfold joinOf unionOf
  split
  · exact canon_congr (fun y x _ _ => by simp [joinOp, Grid.or])
  · rfl
def areaOf (l : List DRect) : Int := if regionOk l then area l else 0
theorem area_take_succ {l : List DRect} {j : Nat} (h : j < l.length) : area (l.take (j + 1)) = area (l.take j) + (l.getD j DRect.zero).W * (l.getD j DRect.zero).H := by
  rw [List.take_add_one, List.getElem?_eq_getElem h, area_append]
  simp [area, List.getD_eq_getElem?_getD, List.getElem?_eq_getElem h]
theorem inScreen_side {r : DRect} (h : r.inScreen) : (1 ≤ r.W ∧ r.W ≤ 16) ∧ (1 ≤ r.H ∧ r.H ≤ 16) := by unfold DRect.inScreen at h; omega
theorem inScreen_area {r : DRect} (h : r.inScreen) : 0 ≤ r.W * r.H ∧ r.W * r.H ≤ 256 := by
  have := inScreen_side h
  constructor
  · exact Int.mul_nonneg (by omega) (by omega)
  · exact Int.le_trans (Int.mul_le_mul this.1.2 (Int.le_refl _) (by omega) (by omega)) (by omega)
theorem getD_inScreen {l : List DRect} (h : regionOk l) {j : Nat} (hj : j < l.length) : (l.getD j DRect.zero).inScreen := by
  rw [List.getD_eq_getElem?_getD, List.getElem?_eq_getElem hj]
  exact h.inScreen (List.getElem_mem hj)
theorem area_take_bd {l : List DRect} (h : regionOk l) : ∀ j, 0 ≤ area (l.take j) ∧ area (l.take j) ≤ 256 * j
  | 0 => ⟨Int.le_refl _, Int.le_refl _⟩
  | j + 1 => by
    have ih := area_take_bd h j
    by_cases hj : j < l.length
    · have := inScreen_area (getD_inScreen h hj)
      rw [area_take_succ hj]
      push_cast; omega
    · rw [List.take_of_length_le (by omega)] at ih ⊢
      push_cast; omega
theorem areaOf_bd (l : List DRect) : 0 ≤ areaOf l ∧ areaOf l ≤ 256 * l.length := by
  unfold areaOf
  split
  · rename_i h
    have := area_take_bd h l.length
    rwa [List.take_length] at this
  · omega
theorem sumN_le16 (f : Nat → Nat) (h : ∀ y, f y ≤ 16) : sumN f 16 ≤ 256 := by
  have : ∀ n, sumN f n ≤ 16 * n := fun n => by
    induction n with
    | zero => exact Nat.le_refl _
    | succ n ih => have := h n; simp only [sumN]; omega
  exact this 16
/-- rectangles of ascending numbers -/
def iotaR (k : Int) (n : Nat) : List DRect := (List.range n).map (fun i : Nat => ⟨k + 4 * i, k + 4 * i + 1, k + 4 * i + 2, k + 4 * i + 3⟩)
theorem iotaR_length (k : Int) (n : Nat) : (iotaR k n).length = n := by simp [iotaR]
theorem iotaR_get (k : Int) {n i : Nat} (h : i < n) : (iotaR k n).getD i DRect.zero = ⟨k + 4 * i, k + 4 * i + 1, k + 4 * i + 2, k + 4 * i + 3⟩ := by
  simp [iotaR, List.getD_eq_getElem?_getD, h]
theorem iotaR_succ (k : Int) (n : Nat) : iotaR k (n + 1) = iotaR k n ++ [⟨k + 4 * n, k + 4 * n + 1, k + 4 * n + 2, k + 4 * n + 3⟩] := by
  simp [iotaR, List.range_succ]
/-- points of a list's first rectangles that are valid -/
theorem points_take_ok {l : List DRect} {k : Nat} (h : k < l.length) (hk : ¬ (l.getD k DRect.zero).ok) : points (l.take (k + 1)) = points (l.take k) := by
  rw [points_take h]
  funext y x
  unfold Grid.or rectG DRect.holds
  rw [decide_eq_false (fun hh => hk hh.1), Bool.or_false]
/-! covered: the first m surfaces of a list -/
def hideG (l : List DSurf) (m : Nat) : Grid := fun y x => (l.take m).any (fun q => hides q y x)
theorem hideG_zero (l : List DSurf) : hideG l 0 = Grid.none := by funext y x; rfl
theorem hideG_succ {l : List DSurf} {m : Nat} (h : m < l.length) (y x : Nat) : hideG l (m + 1) y x = (hideG l m y x || hides (l.getD m default) y x) := by
  unfold hideG
  rw [List.take_add_one, List.any_append, List.getElem?_eq_getElem h, List.getD_eq_getElem?_getD, List.getElem?_eq_getElem h]
  simp
theorem hideG_yes {l : List DSurf} {m : Nat} (h : m < l.length) (ho : isOpaqueS (l.getD m default)) : (hideG l m).or (rectG (surfRect (l.getD m default))) = hideG l (m + 1) := by
  funext y x
  rw [hideG_succ h]
  unfold Grid.or hides rectG
  rw [decide_eq_true ho, Bool.true_and]
theorem hideG_no {l : List DSurf} {m : Nat} (h : m < l.length) (ho : ¬ (isOpaqueS (l.getD m default) ∧ (l.getD m default).Visible = true)) : hideG l (m + 1) = hideG l m := by
  funext y x
  rw [hideG_succ h]
  unfold hides
  by_cases h1 : isOpaqueS (l.getD m default)
  · have hv : ¬ (l.getD m default).Visible = true := fun e => ho ⟨h1, e⟩
    unfold DRect.holds
    rw [surfRect_hid hv, decide_eq_false (zero_has _ _), Bool.and_false, Bool.or_false]
  · rw [decide_eq_false h1, Bool.false_and, Bool.or_false]
theorem coverG_hide (s : DScene) (n : Nat) {m : Nat} (hm : (s.ss.drop n).length ≤ m) : coverG s n = (hideG (s.ss.drop n) m).and (scrG s) := by
  unfold coverG hideG
  rw [List.take_of_length_le hm]
def coverOf (s : DScene) (k : Int) : List DRect := if s.ok ∧ (-1 ≤ k ∧ k ≤ (s.ss.length : Int) - 1) then canon (coverG s (k + 1).toNat) else []
def visibleOf (s : DScene) (k : Int) : List DRect := if s.ok ∧ (0 ≤ k ∧ k ≤ (s.ss.length : Int) - 1) then canon (seenG s k.toNat) else []
theorem coverOf_ok (s : DScene) (k : Int) : regionOk (coverOf s k) := by
  unfold coverOf; split
  · exact regionOk_canon _
  · exact regionOk_nil
theorem visibleOf_ok (s : DScene) (k : Int) : regionOk (visibleOf s k) := by
  unfold visibleOf; split
  · exact regionOk_canon _
  · exact regionOk_nil
/-! the reference's list of what covers -/
def coverL (s : DScene) (k : Nat) : Nat → List DRect
  | 0 => []
  | m + 1 => coverL s k m ++ (if isOpaqueS (s.ss.getD (k + m) default) then [(surfRect (s.ss.getD (k + m) default)).inter (scrR s)] else [])
theorem coverL_length (s : DScene) (k : Nat) : ∀ m, (coverL s k m).length ≤ m
  | 0 => Nat.le_refl _
  | m + 1 => by
    have := coverL_length s k m
    unfold coverL
    rw [List.length_append]
    split <;> simp <;> omega
theorem coverL_points {s : DScene} (h : s.ok) (k : Nat) : ∀ m, k + m ≤ s.ss.length → points (coverL s k m) = (hideG (s.ss.drop k) m).and (scrG s)
  | 0, _ => by
    funext y x
    rw [hideG_zero]; rfl
  | m + 1, hm => by
    have ih := coverL_points h k m (by omega)
    have hd : m < (s.ss.drop k).length := by rw [List.length_drop]; omega
    have hg : (s.ss.drop k).getD m default = s.ss.getD (k + m) default := by
      rw [List.getD_eq_getElem?_getD, List.getD_eq_getElem?_getD, List.getElem?_drop]
    funext y x
    unfold coverL
    rw [points_append, ih]
    unfold Grid.and
    rw [hideG_succ hd, hg]
    unfold hides
    by_cases ho : isOpaqueS (s.ss.getD (k + m) default)
    · rw [if_pos ho, points_one, decide_eq_true ho, Bool.true_and, Bool.and_or_distrib_right]
      unfold rectG scrG
      rw [inter_holds (scrR_ok h)]; rfl
    · rw [if_neg ho, points_nil, decide_eq_false ho, Bool.false_and, Bool.or_false, Bool.or_false]
theorem coverL_all {s : DScene} (h : s.ok) (k : Nat) (hk : k ≤ s.ss.length) : points (coverL s k (s.ss.length - k)) = coverG s k := by
  rw [coverL_points h k _ (by omega), coverG_hide s k (m := s.ss.length - k) (by rw [List.length_drop]; omega)]
theorem visibleOf_join {s : DScene} (h : s.ok) {k : Nat} (hk : k < s.ss.length) : withoutOf (canon (points [(surfRect (s.ss.getD k default)).inter (scrR s)])) (coverOf s k) = visibleOf s k := by
  unfold withoutOf visibleOf
  rw [if_pos ⟨regionOk_canon _, coverOf_ok s k⟩, if_pos ⟨h, by omega⟩]
  refine canon_congr (fun y x hy hx => ?_)
  unfold seenG Grid.without
  rw [points_canon _ y x hy hx, points_one]
  unfold coverOf
  rw [if_pos ⟨h, by omega⟩, points_canon _ y x hy hx, show ((k : Int) + 1).toNat = k + 1 by omega]
  show ((rectG ((surfRect (s.ss.getD k default)).inter (scrR s)) y x) && _) = _
  unfold rectG
  rw [inter_holds (scrR_ok h), show ((k : Int)).toNat = k from rfl]
  rfl
end Sx
/-
  Contracts: the laws' own helpers on regions.
-/
set_option linter.unusedVariables false
namespace Go.Proofs.Ytfmjeakcfmmkfaa
open Go Sx
attribute [local irreducible] Exit.then Exit.inBlock bodyPost
theorem c_eqRectS (u v : Value) (k l : List DRect) (W : World) (hu : RRects W u k) (hv : RRects W v l) : SYields Try.prog 150 #[u, v] (.bool (decide (k = l))) W := by
  have hkl := hu.len
  have hll := hv.len
  (first | apply SYields.mk | apply SYieldsF.mk | skip); refine s_enter Try.func150 rfl Try.ntmps150 rfl ?_
  repeat' (first | exact rfl | (apply kO; (first | exact ov_pure rfl | (apply kOBin; (first | exact aBin)) | (apply kOCall; (first | (apply kCallF; (first | exact (ov_call rfl (fun w hw => c_eqRect _ _ w)))) | (apply kCallB; (first | exact aBlt | exact (ov_lenR (fun w hw => RRow.keep hu (hw.cells rfl)) rfl) | exact (ov_lenR (fun w hw => RRow.keep hv (hw.cells rfl)) rfl) | exact aLenR)))) | (apply kOLoad; (first | exact (ov_ldRZ (fun w hw => RRow.keep hu (hw.cells rfl)) rfl rfl (by omega) rfl) | exact (ov_ldRZ (fun w hw => RRow.keep hv (hw.cells rfl)) rfl rfl (by omega) rfl) | exact aLdF | exact aLdR)) | exact ov_fieldAddr rfl | (apply kOIdx; (first | exact (ov_idxR (fun w hw => RRow.keep hu (hw.cells rfl)) rfl rfl (by omega)) | exact (ov_idxR (fun w hw => RRow.keep hv (hw.cells rfl)) rfl rfl (by omega)) | exact aIdx)) | exact aRest | exact aNew | exact (ov_field1 (ft := 37) rfl rfl rfl rfl))) | (refine kN ?_; (first | (refine kStore ?_; (first | refine s_store1 _ rfl rfl gpA rfl (by rfl) ?_ | refine s_storeS _ rfl rfl gpA rfl rfl (by rfl) ?_ | refine s_storeS _ rfl rfl gpA rfl (ones_img oiA) (by rfl) ?_)) | refine s_boxS rfl rfl (fun b hb => ?_) | refine s_allocS rfl (fun b hb => ?_) | refine s_box1 rfl rfl rfl (fun b hb => ?_) | refine s_alloc1 rfl rfl (fun b hb => ?_) | refine s_buildSlice0 rfl (fun b hb => ?_) | refine s_buildSlice rfl rfl rfl rfl rfl (fun b hb => ?_) | apply s_step)) | (refine kG ?_; (first | refine s_gyes rfl rfl rfl ?_ | refine s_gno rfl rfl rfl rfl rfl ?_ | ((first | refine s_split_d rfl rfl (fun h => ?_) (fun h => ?_) | refine s_split_n rfl rfl (fun h => ?_) (fun h => ?_)) <;> (try (first | contradiction | (exfalso; omega)))) | refine s_split_nb rfl rfl (fun h => ?_) (fun h => ?_) | refine s_split rfl rfl (fun h => ?_) (fun h => ?_))) | refine l_then ?_ | (refine kC ?_; (first | (refine c_loopV (ι := Nat) (fun j => j ≤ k.length ∧ eqTo k l DRect.zero j) (fun j => [(5, .int .i64 (j : Int))]) (fun _ => []) (fun j => k.length - j) 0 ⟨by omega, eqTo_zero _ _ _⟩ rfl (fun _ => rfl) ⟨rfl, trivial⟩ (fun w hw => hw) (fun j hj => ?_)) | refine c_seq ?_ | refine c_regionN rfl ?_ | refine c_ret ?_ | (refine kCond ?_; (first | refine c_cond_t rfl ?_ | refine c_cond_f rfl ?_ | ((first | refine c_cond_d rfl (fun h => ?_) (fun h => ?_) | refine c_cond_n rfl (fun h => ?_) (fun h => ?_)) <;> (try (first | contradiction | (exfalso; omega)))) | refine c_cond_nb rfl (fun h => ?_) (fun h => ?_) | refine c_cond rfl (fun h => ?_) (fun h => ?_))) | refine c_block ?_ | refine c_skip ?_ | refine c_exit ?_ | refine c_regionQN rfl rfl (by decide +kernel) ?_)) | apply s_stepQ | (refine kQG ?_; (first | refine s_gyesQ rfl rfl rfl ?_ | refine s_gnoQ rfl rfl rfl rfl rfl ?_ | ((first | refine s_splitQ_d rfl rfl (fun h => ?_) (fun h => ?_) | refine s_splitQ_n rfl rfl (fun h => ?_) (fun h => ?_)) <;> (try (first | contradiction | (exfalso; omega)))) | refine s_splitQ_nb rfl rfl (fun h => ?_) (fun h => ?_) | refine s_splitQ rfl rfl (fun h => ?_) (fun h => ?_))) | refine lQ_then ?_ | refine lQ_ends ?_ | (refine kE ?_; (first | refine e_then_r ?_ | refine e_block_r ?_ | refine e_then_n ?_ | refine e_then_x ?_ | refine e_block_n ?_ | refine e_block_x ?_ | refine e_block_y rfl ?_)) | refine l_ends ?_)
  all_goals try simp only [Int.toNat_natCast] at *
  all_goals first
    | exact s_leave1 rfl rfl (fun w hw => ⟨ret_false (ne_of_len (by omega)), hw.below⟩)
    | exact s_leave1 rfl rfl (fun w hw => ⟨ret_false (fun e => by subst e; contradiction), hw.below⟩)
    | exact e_round (j + 1) ⟨by omega, eqTo_next hj.2 (by assumption)⟩ ⟨rfl, (by repeat' first | exact trivial | refine ⟨rfl, ?_⟩)⟩ (fun w hw => hw) (by omega)
    | exact s_leave1 rfl rfl (fun w hw => ⟨ret_true (list_eq_of_getD DRect.zero (by omega) (fun i hi => hj.2 i (by omega))), hw.below⟩)
theorem c_eqRegion (u v : Value) (k l : List DRect) (W : World) (hu : RRects W u k) (hv : RRects W v l) : SYields Try.prog 61 #[vReg u, vReg v] (.bool (decide (k = l))) W := by
  (first | apply SYields.mk | apply SYieldsF.mk | skip); refine s_enter Try.func61 rfl Try.ntmps61 rfl ?_
  repeat' (first | exact rfl | (apply kO; (first | exact ov_pure rfl | (apply kOBin; (first | exact aBin)) | (apply kOCall; (first | (apply kCallF; (first | exact (ov_call rfl (fun w hw => c_eqRectS _ _ _ _ w (RVs.keep hu (hw.cells rfl)) (RVs.keep hv (hw.cells rfl)))))) | (apply kCallB; (first | exact aBlt | exact aLenR)))) | (apply kOLoad; (first | exact aLdF | exact aLdR)) | exact ov_fieldAddr rfl | (apply kOIdx; (first | exact aIdx)) | exact aRest | exact aNew | exact (ov_field1 (ft := 37) rfl rfl rfl rfl))) | (refine kN ?_; (first | (refine kStore ?_; (first | refine s_store1 _ rfl rfl gpA rfl (by rfl) ?_ | refine s_storeS _ rfl rfl gpA rfl rfl (by rfl) ?_ | refine s_storeS _ rfl rfl gpA rfl (ones_img oiA) (by rfl) ?_)) | refine s_boxS rfl rfl (fun b hb => ?_) | refine s_allocS rfl (fun b hb => ?_) | refine s_box1 rfl rfl rfl (fun b hb => ?_) | refine s_alloc1 rfl rfl (fun b hb => ?_) | refine s_buildSlice0 rfl (fun b hb => ?_) | refine s_buildSlice rfl rfl rfl rfl rfl (fun b hb => ?_) | apply s_step)) | (refine kG ?_; (first | refine s_gyes rfl rfl rfl ?_ | refine s_gno rfl rfl rfl rfl rfl ?_ | ((first | refine s_split_d rfl rfl (fun h => ?_) (fun h => ?_) | refine s_split_n rfl rfl (fun h => ?_) (fun h => ?_)) <;> (try (first | contradiction | (exfalso; omega)))) | refine s_split_nb rfl rfl (fun h => ?_) (fun h => ?_) | refine s_split rfl rfl (fun h => ?_) (fun h => ?_))) | refine l_then ?_ | (refine kC ?_; (first | refine c_seq ?_ | refine c_regionN rfl ?_ | refine c_ret ?_ | (refine kCond ?_; (first | refine c_cond_t rfl ?_ | refine c_cond_f rfl ?_ | ((first | refine c_cond_d rfl (fun h => ?_) (fun h => ?_) | refine c_cond_n rfl (fun h => ?_) (fun h => ?_)) <;> (try (first | contradiction | (exfalso; omega)))) | refine c_cond_nb rfl (fun h => ?_) (fun h => ?_) | refine c_cond rfl (fun h => ?_) (fun h => ?_))) | refine c_block ?_ | refine c_skip ?_ | refine c_exit ?_ | refine c_regionQN rfl rfl (by decide +kernel) ?_)) | apply s_stepQ | (refine kQG ?_; (first | refine s_gyesQ rfl rfl rfl ?_ | refine s_gnoQ rfl rfl rfl rfl rfl ?_ | ((first | refine s_splitQ_d rfl rfl (fun h => ?_) (fun h => ?_) | refine s_splitQ_n rfl rfl (fun h => ?_) (fun h => ?_)) <;> (try (first | contradiction | (exfalso; omega)))) | refine s_splitQ_nb rfl rfl (fun h => ?_) (fun h => ?_) | refine s_splitQ rfl rfl (fun h => ?_) (fun h => ?_))) | refine lQ_then ?_ | refine lQ_ends ?_ | (refine kE ?_; (first | refine e_then_r ?_ | refine e_block_r ?_ | refine e_then_n ?_ | refine e_then_x ?_ | refine e_block_n ?_ | refine e_block_x ?_ | refine e_block_y rfl ?_)) | refine l_ends ?_)
  all_goals refine s_leave1 rfl rfl (fun w hw => ⟨?_, hw.below⟩)
  all_goals first | exact ret_false (fun e => by subst e; contradiction) | exact ret_true (by assumption)
theorem c_heldRectS (v : Value) (k : Int) (m : Nat) (W : World) (hv : RRects W v (iotaR k m)) (hk : 0 ≤ k ∧ k + 4 * m ≤ 4611686018427387904) : SYields Try.prog 154 #[v, .int .i64 k] (.int .i64 (k + 4 * m)) W := by
  have hl := hv.len
  rw [iotaR_length] at hl
  have hv' : RRow W v 4 m (fun i => [.int .i64 (k + 4 * (i : Int)), .int .i64 (k + 4 * (i : Int) + 1), .int .i64 (k + 4 * (i : Int) + 2), .int .i64 (k + 4 * (i : Int) + 3)]) := RRow.congr hv (iotaR_length k m).symm (fun i hi => by rw [iotaR_get k (by rw [iotaR_length] at hi; exact hi)])
  (first | apply SYields.mk | apply SYieldsF.mk | skip); refine s_enter Try.func154 rfl Try.ntmps154 rfl ?_
  repeat' (first | exact rfl | (apply kO; (first | exact ov_pure rfl | (apply kOBin; (first | exact aBin | exact (ov_add rfl rfl (by omega)))) | (apply kOCall; (first | (apply kCallB; (first | exact aBlt | exact (ov_lenR (fun w hw => RRow.keep hv' (hw.cells rfl)) rfl) | exact aLenR)))) | (apply kOLoad; (first | exact (ov_ldR (fun w hw => RRow.keep hv' (hw.cells rfl)) rfl rfl (by omega) rfl) | exact aLdF | exact aLdR)) | exact ov_fieldAddr rfl | (apply kOIdx; (first | exact (ov_idxR (fun w hw => RRow.keep hv' (hw.cells rfl)) rfl rfl (by omega)) | exact aIdx)) | exact aRest | exact aNew | exact (ov_field1 (ft := 37) rfl rfl rfl rfl))) | (refine kN ?_; (first | (refine kStore ?_; (first | refine s_store1 _ rfl rfl gpA rfl (by rfl) ?_ | refine s_storeS _ rfl rfl gpA rfl rfl (by rfl) ?_ | refine s_storeS _ rfl rfl gpA rfl (ones_img oiA) (by rfl) ?_)) | refine s_boxS rfl rfl (fun b hb => ?_) | refine s_allocS rfl (fun b hb => ?_) | refine s_box1 rfl rfl rfl (fun b hb => ?_) | refine s_alloc1 rfl rfl (fun b hb => ?_) | refine s_buildSlice0 rfl (fun b hb => ?_) | refine s_buildSlice rfl rfl rfl rfl rfl (fun b hb => ?_) | apply s_step)) | (refine kG ?_; (first | refine s_gyes rfl rfl rfl ?_ | refine s_gno rfl rfl rfl rfl rfl ?_ | ((first | refine s_split_d rfl rfl (fun h => ?_) (fun h => ?_) | refine s_split_n rfl rfl (fun h => ?_) (fun h => ?_)) <;> (try (first | contradiction | (exfalso; omega) | (exfalso; (exfalso; omega))))) | refine s_split_nb rfl rfl (fun h => ?_) (fun h => ?_) | refine s_split rfl rfl (fun h => ?_) (fun h => ?_))) | refine l_then ?_ | (refine kC ?_; (first | (refine c_loopV (ι := Nat) (fun j => j ≤ m) (fun j => [(1, .int .i64 (k + 4 * j)), (5, .int .i64 (j : Int))]) (fun _ => []) (fun j => m - j) 0 (by omega) rfl (fun _ => rfl) ⟨slook_to rfl (vint_to (by simp)), rfl, trivial⟩ (fun w hw => hw) (fun j hj => ?_)) | refine c_seq ?_ | refine c_regionN rfl ?_ | refine c_ret ?_ | (refine kCond ?_; (first | refine c_cond_t rfl ?_ | refine c_cond_f rfl ?_ | ((first | refine c_cond_d rfl (fun h => ?_) (fun h => ?_) | refine c_cond_n rfl (fun h => ?_) (fun h => ?_)) <;> (try (first | contradiction | (exfalso; omega) | (exfalso; (exfalso; omega))))) | refine c_cond_nb rfl (fun h => ?_) (fun h => ?_) | refine c_cond rfl (fun h => ?_) (fun h => ?_))) | refine c_block ?_ | refine c_skip ?_ | refine c_exit ?_ | refine c_regionQN rfl rfl (by decide +kernel) ?_)) | apply s_stepQ | (refine kQG ?_; (first | refine s_gyesQ rfl rfl rfl ?_ | refine s_gnoQ rfl rfl rfl rfl rfl ?_ | ((first | refine s_splitQ_d rfl rfl (fun h => ?_) (fun h => ?_) | refine s_splitQ_n rfl rfl (fun h => ?_) (fun h => ?_)) <;> (try (first | contradiction | (exfalso; omega) | (exfalso; (exfalso; omega))))) | refine s_splitQ_nb rfl rfl (fun h => ?_) (fun h => ?_) | refine s_splitQ rfl rfl (fun h => ?_) (fun h => ?_))) | refine lQ_then ?_ | refine lQ_ends ?_ | (refine kE ?_; (first | refine e_then_r ?_ | refine e_block_r ?_ | refine e_then_n ?_ | refine e_then_x ?_ | refine e_block_n ?_ | refine e_block_x ?_ | refine e_block_y rfl ?_)) | refine l_ends ?_)
  all_goals first
    | exact e_round (j + 1) (by omega) ⟨slook_to rfl (vint_to (by push_cast; omega)), slook_to rfl (vint_to (by push_cast; rfl)), (by repeat' first | exact trivial | refine ⟨rfl, ?_⟩)⟩ (fun w hw => hw) (by omega)
    | exact s_leave1 rfl rfl (fun w hw => ⟨ret_int (by rw [show j = m by omega]), hw.below⟩)
theorem c_heldRegion (v : Value) (k : Int) (m : Nat) (W : World) (hv : RRects W v (iotaR k m)) (hk : 0 ≤ k ∧ k + 4 * m ≤ 4611686018427387904) : SYields Try.prog 65 #[vReg v, .int .i64 k] (.int .i64 (k + 4 * m)) W := by
  (first | apply SYields.mk | apply SYieldsF.mk | skip); refine s_enter Try.func65 rfl Try.ntmps65 rfl ?_
  repeat' (first | exact rfl | (apply kO; (first | exact ov_pure rfl | (apply kOBin; (first | exact aBin)) | (apply kOCall; (first | (apply kCallF; (first | exact (ov_call rfl (fun w hw => c_heldRectS _ _ m w (RVs.keep hv (hw.cells rfl)) hk)))) | (apply kCallB; (first | exact aBlt | exact aLenR)))) | (apply kOLoad; (first | exact aLdF | exact aLdR)) | exact ov_fieldAddr rfl | (apply kOIdx; (first | exact aIdx)) | exact aRest | exact aNew | exact (ov_field1 (ft := 37) rfl rfl rfl rfl))) | (refine kN ?_; (first | (refine kStore ?_; (first | refine s_store1 _ rfl rfl gpA rfl (by rfl) ?_ | refine s_storeS _ rfl rfl gpA rfl rfl (by rfl) ?_ | refine s_storeS _ rfl rfl gpA rfl (ones_img oiA) (by rfl) ?_)) | refine s_boxS rfl rfl (fun b hb => ?_) | refine s_allocS rfl (fun b hb => ?_) | refine s_box1 rfl rfl rfl (fun b hb => ?_) | refine s_alloc1 rfl rfl (fun b hb => ?_) | refine s_buildSlice0 rfl (fun b hb => ?_) | refine s_buildSlice rfl rfl rfl rfl rfl (fun b hb => ?_) | apply s_step)) | (refine kG ?_; (first | refine s_gyes rfl rfl rfl ?_ | refine s_gno rfl rfl rfl rfl rfl ?_ | ((first | refine s_split_d rfl rfl (fun h => ?_) (fun h => ?_) | refine s_split_n rfl rfl (fun h => ?_) (fun h => ?_)) <;> (try (first | contradiction | (exfalso; omega) | (exfalso; (exfalso; omega))))) | refine s_split_nb rfl rfl (fun h => ?_) (fun h => ?_) | refine s_split rfl rfl (fun h => ?_) (fun h => ?_))) | refine l_then ?_ | (refine kC ?_; (first | refine c_seq ?_ | refine c_regionN rfl ?_ | refine c_ret ?_ | (refine kCond ?_; (first | refine c_cond_t rfl ?_ | refine c_cond_f rfl ?_ | ((first | refine c_cond_d rfl (fun h => ?_) (fun h => ?_) | refine c_cond_n rfl (fun h => ?_) (fun h => ?_)) <;> (try (first | contradiction | (exfalso; omega) | (exfalso; (exfalso; omega))))) | refine c_cond_nb rfl (fun h => ?_) (fun h => ?_) | refine c_cond rfl (fun h => ?_) (fun h => ?_))) | refine c_block ?_ | refine c_skip ?_ | refine c_exit ?_ | refine c_regionQN rfl rfl (by decide +kernel) ?_)) | apply s_stepQ | (refine kQG ?_; (first | refine s_gyesQ rfl rfl rfl ?_ | refine s_gnoQ rfl rfl rfl rfl rfl ?_ | ((first | refine s_splitQ_d rfl rfl (fun h => ?_) (fun h => ?_) | refine s_splitQ_n rfl rfl (fun h => ?_) (fun h => ?_)) <;> (try (first | contradiction | (exfalso; omega) | (exfalso; (exfalso; omega))))) | refine s_splitQ_nb rfl rfl (fun h => ?_) (fun h => ?_) | refine s_splitQ rfl rfl (fun h => ?_) (fun h => ?_))) | refine lQ_then ?_ | refine lQ_ends ?_ | (refine kE ?_; (first | refine e_then_r ?_ | refine e_block_r ?_ | refine e_then_n ?_ | refine e_then_x ?_ | refine e_block_n ?_ | refine e_block_x ?_ | refine e_block_y rfl ?_)) | refine l_ends ?_)
  all_goals refine s_leave1 rfl rfl (fun w hw => ⟨?_, hw.below⟩)
  all_goals rfl
theorem set4 {P R : List Value} {a c e f a' c' e' f' : Value} {p : Nat} (hp : p = P.length) : ((((P ++ (a :: c :: e :: f :: R)).set p a').set (p + 1) c').set (p + 2) e').set (p + 3) f' = P ++ (a' :: c' :: e' :: f' :: R) := by
  subst hp
  rw [List.set_append_right _ _ (Nat.le_refl _), List.set_append_right _ _ (by omega), List.set_append_right _ _ (by omega), List.set_append_right _ _ (by omega)]
  rw [Nat.sub_self, show P.length + 1 - P.length = 1 by omega, show P.length + 2 - P.length = 2 by omega, show P.length + 3 - P.length = 3 by omega]
  rfl
/-- the cells of rectangles of which the first j are marked -/
def markRTo (l : List DRect) (k : Int) (j : Nat) : List DRect := iotaR k j ++ l.drop j
theorem markRTo_zero (l : List DRect) (k : Int) : markRTo l k 0 = l := by simp [markRTo, iotaR]
theorem markRTo_all (l : List DRect) (k : Int) : markRTo l k l.length = iotaR k l.length := by simp [markRTo]
theorem markRTo_length (l : List DRect) (k : Int) {j : Nat} (h : j ≤ l.length) : (markRTo l k j).length = l.length := by simp [markRTo, iotaR_length]; omega
theorem rcells_length (l : List DRect) : (l.flatMap cRect).length = l.length * 4 := flatMap_length (c := cRect) (k := 4) (fun _ => rfl) l
theorem markRTo_set (l : List DRect) (k : Int) (r : List Value) {j : Nat} (h : j < l.length) :
    ((((((markRTo l k j).flatMap cRect ++ r).set (j * 4) (.int .i64 (k + 4 * j))).set (j * 4 + 1) (.int .i64 (k + 4 * j + 1))).set (j * 4 + 2) (.int .i64 (k + 4 * j + 1 + 1))).set (j * 4 + 3) (.int .i64 (k + 4 * j + 1 + 1 + 1))) = (markRTo l k (j + 1)).flatMap cRect ++ r := by
  rw [show k + 4 * (j : Int) + 1 + 1 + 1 = k + 4 * j + 3 by omega, show k + 4 * (j : Int) + 1 + 1 = k + 4 * j + 2 by omega]
  unfold markRTo
  rw [List.drop_eq_getElem_cons h, iotaR_succ, List.flatMap_append, List.flatMap_append, List.flatMap_append, List.flatMap_cons, List.append_assoc, List.append_assoc]
  show (((((iotaR k j).flatMap cRect ++ (_ :: _ :: _ :: _ :: _)).set _ _).set _ _).set _ _).set _ _ = _
  rw [set4 (by rw [rcells_length, iotaR_length])]
  simp
set_option maxHeartbeats 2000000 in
theorem c_markRectS (v : Value) (l : List DRect) (H : SPiece) (k : Int) (w : World) (hv : ORects v l H) (hH : Holds w H) (hn : H.keys.Nodup) (hk : 0 ≤ k ∧ k + 4 * l.length ≤ 4611686018427387904) :
    SYieldsG Try.prog 153 #[v, .int .i64 k] H (fun u H' F => u = .int .i64 (k + 4 * l.length) ∧ ORects v (iotaR k l.length) H' ∧ F = []) w := by
  have hlen := hv.len
  unfold maxLen at hlen
  have hil := iotaR_length k l.length
  have hrl := rcells_length
  have hml := fun j (h : j ≤ l.length) => markRTo_length l k h
  unfold ORects OVs at hv
  generalize hx : l.flatMap cRect = xs at hv
  generalize hnn : l.length = nn at hv
  cases hv with
  | nil =>
    have hl0 : l = [] := List.eq_nil_of_length_eq_zero hnn
    subst hl0
    refine SYieldsG.mk (s_enterM Try.func153 rfl Try.ntmps153 rfl hH hn ?_)
    repeat' (first | exact rfl | (apply kO; (first | exact ov_pure rfl | (apply kOBin; (first | exact aBin)) | (apply kOCall; (first | (apply kCallB; (first | exact aBlt | exact aLenR)))) | (apply kOLoad; (first | exact aLdF | exact aLdR)) | exact ov_fieldAddr rfl | (apply kOIdx; (first | exact aIdx)) | exact aRest | exact aNew | exact (ov_field1 (ft := 37) rfl rfl rfl rfl))) | (refine kN ?_; (first | (refine kStore ?_; (first | refine s_store1 _ rfl rfl gpA rfl (by rfl) ?_ | refine s_storeS _ rfl rfl gpA rfl rfl (by rfl) ?_ | refine s_storeS _ rfl rfl gpA rfl (ones_img oiA) (by rfl) ?_)) | refine s_boxS rfl rfl (fun b hb => ?_) | refine s_allocS rfl (fun b hb => ?_) | refine s_box1 rfl rfl rfl (fun b hb => ?_) | refine s_alloc1 rfl rfl (fun b hb => ?_) | refine s_buildSlice0 rfl (fun b hb => ?_) | refine s_buildSlice rfl rfl rfl rfl rfl (fun b hb => ?_) | apply s_step)) | (refine kG ?_; (first | refine s_gyes rfl rfl rfl ?_ | refine s_gno rfl rfl rfl rfl rfl ?_ | ((first | refine s_split_d rfl rfl (fun h => ?_) (fun h => ?_) | refine s_split_n rfl rfl (fun h => ?_) (fun h => ?_)) <;> (try (first | contradiction | (exfalso; omega)))) | refine s_split_nb rfl rfl (fun h => ?_) (fun h => ?_) | refine s_split rfl rfl (fun h => ?_) (fun h => ?_))) | refine l_then ?_ | (refine kC ?_; (first | (refine c_loopV (ι := Unit) (fun _ => True) (fun _ => [(1, .int .i64 k), (5, .int .i64 0)]) (fun _ => [[]]) (fun _ => 0) () trivial rfl (fun _ => rfl) (by repeat' first | exact trivial | refine ⟨rfl, ?_⟩) (fun w hw => by simpa using hw) (fun j hj => ?_)) | refine c_seq ?_ | refine c_regionN rfl ?_ | refine c_ret ?_ | (refine kCond ?_; (first | refine c_cond_t rfl ?_ | refine c_cond_f rfl ?_ | ((first | refine c_cond_d rfl (fun h => ?_) (fun h => ?_) | refine c_cond_n rfl (fun h => ?_) (fun h => ?_)) <;> (try (first | contradiction | (exfalso; omega)))) | refine c_cond_nb rfl (fun h => ?_) (fun h => ?_) | refine c_cond rfl (fun h => ?_) (fun h => ?_))) | refine c_block ?_ | refine c_skip ?_ | refine c_exit ?_ | refine c_regionQN rfl rfl (by decide +kernel) ?_)) | apply s_stepQ | (refine kQG ?_; (first | refine s_gyesQ rfl rfl rfl ?_ | refine s_gnoQ rfl rfl rfl rfl rfl ?_ | ((first | refine s_splitQ_d rfl rfl (fun h => ?_) (fun h => ?_) | refine s_splitQ_n rfl rfl (fun h => ?_) (fun h => ?_)) <;> (try (first | contradiction | (exfalso; omega)))) | refine s_splitQ_nb rfl rfl (fun h => ?_) (fun h => ?_) | refine s_splitQ rfl rfl (fun h => ?_) (fun h => ?_))) | refine lQ_then ?_ | refine lQ_ends ?_ | (refine kE ?_; (first | refine e_then_r ?_ | refine e_block_r ?_ | refine e_then_n ?_ | refine e_then_x ?_ | refine e_block_n ?_ | refine e_block_x ?_ | refine e_block_y rfl ?_)) | refine l_ends ?_)
    · exact s_leave1 rfl rfl (fun w hw => ⟨_, _, _, rfl, ⟨by simp, OVs.nil, rfl⟩, SSt.lone hw⟩)
  | blk b n cap xs r h1 h2 h3 h4 =>
    subst hx
    subst hnn
    refine SYieldsG.mk (s_enterM Try.func153 rfl Try.ntmps153 rfl hH hn ?_)
    repeat' (first | exact rfl | (apply kO; (first | exact ov_pure rfl | (apply kOBin; (first | exact aBin | exact (ov_add rfl rfl (by omega)))) | (apply kOCall; (first | (apply kCallB; (first | exact aBlt | exact aLenR)))) | (apply kOLoad; (first | exact aLdF | exact aLdR)) | exact ov_fieldAddr rfl | (apply kOIdx; (first | exact (ov_indexAddr rfl rfl (by omega)) | exact aIdx)) | exact aRest | exact aNew | exact (ov_field1 (ft := 37) rfl rfl rfl rfl))) | (refine kN ?_; (first | (refine kStore ?_; (first | (refine s_setR 0 rfl rfl rfl rfl (by (try simp only [List.length_set]); rw [List.length_append, hrl, hml j hj]; omega) ?_) | refine s_store1 _ rfl rfl gpA rfl (by rfl) ?_ | refine s_storeS _ rfl rfl gpA rfl rfl (by rfl) ?_ | refine s_storeS _ rfl rfl gpA rfl (ones_img oiA) (by rfl) ?_)) | refine s_boxS rfl rfl (fun b hb => ?_) | refine s_allocS rfl (fun b hb => ?_) | refine s_box1 rfl rfl rfl (fun b hb => ?_) | refine s_alloc1 rfl rfl (fun b hb => ?_) | refine s_buildSlice0 rfl (fun b hb => ?_) | refine s_buildSlice rfl rfl rfl rfl rfl (fun b hb => ?_) | apply s_step)) | (refine kG ?_; (first | refine s_gyes rfl rfl rfl ?_ | refine s_gno rfl rfl rfl rfl rfl ?_ | ((first | refine s_split_d rfl rfl (fun h => ?_) (fun h => ?_) | refine s_split_n rfl rfl (fun h => ?_) (fun h => ?_)) <;> (try (first | contradiction | (exfalso; omega)))) | refine s_split_nb rfl rfl (fun h => ?_) (fun h => ?_) | refine s_split rfl rfl (fun h => ?_) (fun h => ?_))) | refine l_then ?_ | (refine kC ?_; (first | (refine c_loopV (ι := Nat) (fun j => j ≤ l.length) (fun j => [(1, .int .i64 (k + 4 * j)), (5, .int .i64 (j : Int))]) (fun j => [[(b, srow ((markRTo l k j).flatMap cRect ++ r) 73)]]) (fun j => l.length - j) 0 (by omega) rfl (fun _ => rfl) ⟨slook_to rfl (vint_to (by simp)), rfl, trivial⟩ (fun w hw => by rw [markRTo_zero]; simpa using hw) (fun j hj => ?_)) | refine c_seq ?_ | refine c_regionN rfl ?_ | refine c_ret ?_ | (refine kCond ?_; (first | refine c_cond_t rfl ?_ | refine c_cond_f rfl ?_ | ((first | refine c_cond_d rfl (fun h => ?_) (fun h => ?_) | refine c_cond_n rfl (fun h => ?_) (fun h => ?_)) <;> (try (first | contradiction | (exfalso; omega)))) | refine c_cond_nb rfl (fun h => ?_) (fun h => ?_) | refine c_cond rfl (fun h => ?_) (fun h => ?_))) | refine c_block ?_ | refine c_skip ?_ | refine c_exit ?_ | refine c_regionQN rfl rfl (by decide +kernel) ?_)) | apply s_stepQ | (refine kQG ?_; (first | refine s_gyesQ rfl rfl rfl ?_ | refine s_gnoQ rfl rfl rfl rfl rfl ?_ | ((first | refine s_splitQ_d rfl rfl (fun h => ?_) (fun h => ?_) | refine s_splitQ_n rfl rfl (fun h => ?_) (fun h => ?_)) <;> (try (first | contradiction | (exfalso; omega)))) | refine s_splitQ_nb rfl rfl (fun h => ?_) (fun h => ?_) | refine s_splitQ rfl rfl (fun h => ?_) (fun h => ?_))) | refine lQ_then ?_ | refine lQ_ends ?_ | (refine kE ?_; (first | refine e_then_r ?_ | refine e_block_r ?_ | refine e_then_n ?_ | refine e_then_x ?_ | refine e_block_n ?_ | refine e_block_x ?_ | refine e_block_y rfl ?_)) | refine l_ends ?_)
    · refine e_round (j + 1) (by omega) ⟨slook_to rfl (vint_to (by push_cast; omega)), rfl, (by repeat' first | exact trivial | refine ⟨rfl, ?_⟩)⟩ (fun w hw => ?_) (by omega)
      rw [← markRTo_set l k r (by omega)]
      simp only [Nat.zero_add, Int.toNat_natCast, Nat.add_zero, Nat.mul_one] at hw ⊢
      exact hw
    · obtain rfl : j = l.length := by omega
      rw [markRTo_all]
      refine s_leave1 rfl rfl (fun w hw => ⟨_, _, _, rfl, ⟨rfl, ?_, rfl⟩, SSt.lone hw⟩)
      have := OVec.blk (k := 4) (T := 73) b l.length cap ((iotaR k l.length).flatMap cRect) r (by rw [hrl, hil]) (by rw [List.length_append, hrl] at h2 ⊢; rw [hil]; exact h2) h3 h4
      unfold ORects OVs
      rw [hil]; exact this
theorem c_markRegion (v : Value) (l : List DRect) (H : SPiece) (k : Int) (w : World) (hv : ORects v l H) (hH : Holds w H) (hn : H.keys.Nodup) (hk : 0 ≤ k ∧ k + 4 * l.length ≤ 4611686018427387904) :
    SYieldsG Try.prog 64 #[vReg v, .int .i64 k] H (fun u H' F => u = .int .i64 (k + 4 * l.length) ∧ ORects v (iotaR k l.length) H' ∧ F = []) w := by
  refine SYieldsG.mk (s_enterM Try.func64 rfl Try.ntmps64 rfl hH hn ?_)
  repeat' (first | exact rfl | (apply kO; (first | exact ov_pure rfl | (apply kOBin; (first | exact aBin)) | (apply kOCall; (first | (apply kCallB; (first | exact aBlt | exact aLenR)))) | (apply kOLoad; (first | exact aLdF | exact aLdR)) | exact ov_fieldAddr rfl | (apply kOIdx; (first | exact aIdx)) | exact aRest | exact aNew | exact (ov_field1 (ft := 37) rfl rfl rfl rfl))) | (refine kN ?_; (first | (refine kCall ?_; (first | (refine kWFn 153 ?_; (refine s_callG _ (H := H) (fun u H' F => u = .int .i64 (k + 4 * l.length) ∧ ORects v (iotaR k l.length) H' ∧ F = []) rfl gpA (fun w hw hh hn => c_markRectS v l H k w hv hh hn hk) rfl (fun u H' F hu => ?_); obtain ⟨rfl, hu, rfl⟩ := hu)) | apply s_step)) | (refine kStore ?_; (first | refine s_store1 _ rfl rfl gpA rfl (by rfl) ?_ | refine s_storeS _ rfl rfl gpA rfl rfl (by rfl) ?_ | refine s_storeS _ rfl rfl gpA rfl (ones_img oiA) (by rfl) ?_)) | refine s_boxS rfl rfl (fun b hb => ?_) | refine s_allocS rfl (fun b hb => ?_) | refine s_box1 rfl rfl rfl (fun b hb => ?_) | refine s_alloc1 rfl rfl (fun b hb => ?_) | refine s_buildSlice0 rfl (fun b hb => ?_) | refine s_buildSlice rfl rfl rfl rfl rfl (fun b hb => ?_) | apply s_step)) | (refine kG ?_; (first | refine s_gyes rfl rfl rfl ?_ | refine s_gno rfl rfl rfl rfl rfl ?_ | ((first | refine s_split_d rfl rfl (fun h => ?_) (fun h => ?_) | refine s_split_n rfl rfl (fun h => ?_) (fun h => ?_)) <;> (try (first | contradiction | (exfalso; omega)))) | refine s_split_nb rfl rfl (fun h => ?_) (fun h => ?_) | refine s_split rfl rfl (fun h => ?_) (fun h => ?_))) | refine l_then ?_ | (refine kC ?_; (first | refine c_seq ?_ | refine c_regionN rfl ?_ | refine c_ret ?_ | (refine kCond ?_; (first | refine c_cond_t rfl ?_ | refine c_cond_f rfl ?_ | ((first | refine c_cond_d rfl (fun h => ?_) (fun h => ?_) | refine c_cond_n rfl (fun h => ?_) (fun h => ?_)) <;> (try (first | contradiction | (exfalso; omega)))) | refine c_cond_nb rfl (fun h => ?_) (fun h => ?_) | refine c_cond rfl (fun h => ?_) (fun h => ?_))) | refine c_block ?_ | refine c_skip ?_ | refine c_exit ?_ | refine c_regionQN rfl rfl (by decide +kernel) ?_)) | apply s_stepQ | (refine kQG ?_; (first | refine s_gyesQ rfl rfl rfl ?_ | refine s_gnoQ rfl rfl rfl rfl rfl ?_ | ((first | refine s_splitQ_d rfl rfl (fun h => ?_) (fun h => ?_) | refine s_splitQ_n rfl rfl (fun h => ?_) (fun h => ?_)) <;> (try (first | contradiction | (exfalso; omega)))) | refine s_splitQ_nb rfl rfl (fun h => ?_) (fun h => ?_) | refine s_splitQ rfl rfl (fun h => ?_) (fun h => ?_))) | refine lQ_then ?_ | refine lQ_ends ?_ | (refine kE ?_; (first | refine e_then_r ?_ | refine e_block_r ?_ | refine e_then_n ?_ | refine e_then_x ?_ | refine e_block_n ?_ | refine e_block_x ?_ | refine e_block_y rfl ?_)) | refine l_ends ?_)
  all_goals refine s_leave1 rfl rfl (fun w hw => ⟨_, _, _, rfl, ⟨rfl, by assumption, rfl⟩, ?_⟩)
  all_goals exact (hw.sub (L' := [_]) (by repeat' first | exact List.nil_sublist _ | exact List.Sublist.slnil | refine List.Sublist.cons_cons _ ?_ | refine List.Sublist.cons _ ?_)).lone
section
variable {n : Nat} {lo : SMut} {s : World} {ops : Array Oper} {Q : Exit → Act → World → Prop} {E : SEnv} {L : SHeap} {dd : Nat} {ty : TypeId} {pos : String} {after : Array Edge} {rest : List Oper}
theorem s_markReg (i : Nat) {v : Value} {l : List DRect} {k : Int} {H : SPiece} {args : List Operand} {ts : Array TypeId} (ha : svals E args = some [vReg v, .int .i64 k]) (hv : ORects v l H) (hL : getL L i = some H) (hk : 0 ≤ k ∧ k + 4 * l.length ≤ 4611686018427387904) (hd : Nat.blt dd n = true)
    (c : ∀ H', ORects v (iotaR k l.length) H' → WPL Try.prog n lo s ops Q rest ((dd, .int .i64 (k + 4 * l.length)) :: E) ([] :: setL L i H')) :
    WPL Try.prog n lo s ops Q (⟨some dd, .call { callee := .value (.func 64), args := args.toArray, argTypes := ts }, ty, pos, after, none⟩ :: rest) E L :=
  s_callG i (fun u H' F => u = .int .i64 (k + 4 * l.length) ∧ ORects v (iotaR k l.length) H' ∧ F = []) ha hL (fun w hw hh hn => c_markRegion v l H k w hv hh hn hk) hd (fun v' H' F hu => by obtain ⟨rfl, hu, rfl⟩ := hu; exact c H' hu)
end
end Go.Proofs.Ytfmjeakcfmmkfaa
/-
  Contracts: the laws' own helpers on surfaces and scenes.
-/
set_option linter.unusedVariables false
namespace Go.Proofs.Ytfmjeakcfmmkfaa
open Go Sx
attribute [local irreducible] Exit.then Exit.inBlock bodyPost
theorem c_szSurface (s : DSurf) (d : Value) (left : Int) (w : World) (hd : RInts w d s.buf.data) (hl : 0 ≤ left ∧ left ≤ 1048576) : SYields Try.prog 199 #[vSurf s d, .int .i64 left] (.int .i64 (szI s.buf.data.length left)) w := by
  have hk := hd.len
  (first | apply SYields.mk | apply SYieldsF.mk | skip); refine s_enter Try.func199 rfl Try.ntmps199 rfl ?_
  repeat' (first | exact rfl | (apply kO; (first | exact ov_pure rfl | (apply kOBin; (first | exact aBin)) | (apply kOCall; (first | (apply kCallF; (first | exact (ov_call rfl (fun w hw => c_szImage s.buf _ _ w (riA hw) (by omega))))) | (apply kCallB; (first | exact aBlt | exact aLenR)))) | (apply kOLoad; (first | exact aLdF | exact aLdR)) | exact ov_fieldAddr rfl | (apply kOIdx; (first | exact aIdx)) | exact aRest | exact aNew | exact (ov_field1 (ft := 37) rfl rfl rfl rfl))) | (refine kN ?_; (first | (refine kStore ?_; (first | refine s_store1 _ rfl rfl gpA rfl (by rfl) ?_ | refine s_storeS _ rfl rfl gpA rfl rfl (by rfl) ?_ | refine s_storeS _ rfl rfl gpA rfl (ones_img oiA) (by rfl) ?_)) | refine s_boxS rfl rfl (fun b hb => ?_) | refine s_allocS rfl (fun b hb => ?_) | refine s_box1 rfl rfl rfl (fun b hb => ?_) | refine s_alloc1 rfl rfl (fun b hb => ?_) | refine s_buildSlice0 rfl (fun b hb => ?_) | refine s_buildSlice rfl rfl rfl rfl rfl (fun b hb => ?_) | apply s_step)) | (refine kG ?_; (first | refine s_gyes rfl rfl rfl ?_ | refine s_gno rfl rfl rfl rfl rfl ?_ | ((first | refine s_split_d rfl rfl (fun h => ?_) (fun h => ?_) | refine s_split_n rfl rfl (fun h => ?_) (fun h => ?_)) <;> (try (first | contradiction | (exfalso; omega)))) | refine s_split_nb rfl rfl (fun h => ?_) (fun h => ?_) | refine s_split rfl rfl (fun h => ?_) (fun h => ?_))) | refine l_then ?_ | (refine kC ?_; (first | refine c_seq ?_ | refine c_regionN rfl ?_ | refine c_ret ?_ | (refine kCond ?_; (first | refine c_cond_t rfl ?_ | refine c_cond_f rfl ?_ | ((first | refine c_cond_d rfl (fun h => ?_) (fun h => ?_) | refine c_cond_n rfl (fun h => ?_) (fun h => ?_)) <;> (try (first | contradiction | (exfalso; omega)))) | refine c_cond_nb rfl (fun h => ?_) (fun h => ?_) | refine c_cond rfl (fun h => ?_) (fun h => ?_))) | refine c_block ?_ | refine c_skip ?_ | refine c_exit ?_ | refine c_regionQN rfl rfl (by decide +kernel) ?_)) | apply s_stepQ | (refine kQG ?_; (first | refine s_gyesQ rfl rfl rfl ?_ | refine s_gnoQ rfl rfl rfl rfl rfl ?_ | ((first | refine s_splitQ_d rfl rfl (fun h => ?_) (fun h => ?_) | refine s_splitQ_n rfl rfl (fun h => ?_) (fun h => ?_)) <;> (try (first | contradiction | (exfalso; omega)))) | refine s_splitQ_nb rfl rfl (fun h => ?_) (fun h => ?_) | refine s_splitQ rfl rfl (fun h => ?_) (fun h => ?_))) | refine lQ_then ?_ | refine lQ_ends ?_ | (refine kE ?_; (first | refine e_then_r ?_ | refine e_block_r ?_ | refine e_then_n ?_ | refine e_then_x ?_ | refine e_block_n ?_ | refine e_block_x ?_ | refine e_block_y rfl ?_)) | refine l_ends ?_)
  all_goals refine s_leave1 rfl rfl (fun w hw => ⟨?_, hw.below⟩)
  all_goals (refine ret_int ?_; unfold szI at *; (repeat' split at *) <;> omega)
theorem c_toSurface (s : DSurf) (d : Value) (w : World) (hd : RInts w d s.buf.data) (hl : s.buf.data.length ≤ 1048576) : SYieldsF Try.prog 204 #[vSurf s d] (fun u H => OSurf u s H) w := by
  have hd' := hd.form
  obtain ⟨_, _, rfl⟩ := hd'
  (first | apply SYields.mk | apply SYieldsF.mk | skip); refine s_enter Try.func204 rfl Try.ntmps204 rfl ?_
  repeat' (first | exact rfl | (apply kO; (first | exact ov_pure rfl | (apply kOBin; (first | exact aBin)) | (apply kOCall; (first | (apply kCallB; (first | exact aBlt | exact aLenR)))) | (apply kOLoad; (first | exact aLdF | exact aLdR)) | exact ov_fieldAddr rfl | (apply kOIdx; (first | exact aIdx)) | exact aRest | exact aNew | exact (ov_field1 (ft := 37) rfl rfl rfl rfl))) | (refine kN ?_; (first | (refine kCall ?_; (first | (refine kWFunc ?_; (refine s_callF (fun u H => OImg u s.buf H) rfl (fun w hw => c_toImage s.buf _ w (riA hw) hl) rfl (fun u H hu => ?_); obtain ⟨d', rfl, hu⟩ := hu; obtain ⟨_, _, rfl⟩ := hu.form)) | apply s_step)) | (refine kStore ?_; (first | refine s_store1 _ rfl rfl gpA rfl (by rfl) ?_ | refine s_storeS _ rfl rfl gpA rfl rfl (by rfl) ?_ | refine s_storeS _ rfl rfl gpA rfl (ones_img oiA) (by rfl) ?_)) | refine s_boxS rfl rfl (fun b hb => ?_) | refine s_allocS rfl (fun b hb => ?_) | refine s_box1 rfl rfl rfl (fun b hb => ?_) | refine s_alloc1 rfl rfl (fun b hb => ?_) | refine s_buildSlice0 rfl (fun b hb => ?_) | refine s_buildSlice rfl rfl rfl rfl rfl (fun b hb => ?_) | apply s_step)) | (refine kG ?_; (first | refine s_gyes rfl rfl rfl ?_ | refine s_gno rfl rfl rfl rfl rfl ?_ | ((first | refine s_split_d rfl rfl (fun h => ?_) (fun h => ?_) | refine s_split_n rfl rfl (fun h => ?_) (fun h => ?_)) <;> (try (first | contradiction | (exfalso; omega)))) | refine s_split_nb rfl rfl (fun h => ?_) (fun h => ?_) | refine s_split rfl rfl (fun h => ?_) (fun h => ?_))) | refine l_then ?_ | (refine kC ?_; (first | refine c_seq ?_ | refine c_regionN rfl ?_ | refine c_ret ?_ | (refine kCond ?_; (first | refine c_cond_t rfl ?_ | refine c_cond_f rfl ?_ | ((first | refine c_cond_d rfl (fun h => ?_) (fun h => ?_) | refine c_cond_n rfl (fun h => ?_) (fun h => ?_)) <;> (try (first | contradiction | (exfalso; omega)))) | refine c_cond_nb rfl (fun h => ?_) (fun h => ?_) | refine c_cond rfl (fun h => ?_) (fun h => ?_))) | refine c_block ?_ | refine c_skip ?_ | refine c_exit ?_ | refine c_regionQN rfl rfl (by decide +kernel) ?_)) | apply s_stepQ | (refine kQG ?_; (first | refine s_gyesQ rfl rfl rfl ?_ | refine s_gnoQ rfl rfl rfl rfl rfl ?_ | ((first | refine s_splitQ_d rfl rfl (fun h => ?_) (fun h => ?_) | refine s_splitQ_n rfl rfl (fun h => ?_) (fun h => ?_)) <;> (try (first | contradiction | (exfalso; omega)))) | refine s_splitQ_nb rfl rfl (fun h => ?_) (fun h => ?_) | refine s_splitQ rfl rfl (fun h => ?_) (fun h => ?_))) | refine lQ_then ?_ | refine lQ_ends ?_ | (refine kE ?_; (first | refine e_then_r ?_ | refine e_block_r ?_ | refine e_then_n ?_ | refine e_then_x ?_ | refine e_block_n ?_ | refine e_block_x ?_ | refine e_block_y rfl ?_)) | refine l_ends ?_)
  all_goals (refine kE ?_; refine s_leaveSF rfl rfl rfl fwA (fun w hw => ?_))
  exact ⟨_, _, rfl, ⟨_, rfl, by assumption⟩, hw.toFresh (i := 0) rfl⟩
theorem c_eqSurface (a c : DSurf) (d e : Value) (w : World) (hd : RInts w d a.buf.data) (he : RInts w e c.buf.data) : SYields Try.prog 206 #[vSurf a d, vSurf c e] (.bool (decide (a = c))) w := by
  (first | apply SYields.mk | apply SYieldsF.mk | skip); refine s_enter Try.func206 rfl Try.ntmps206 rfl ?_
  repeat' (first | exact rfl | (apply kO; (first | exact ov_pure rfl | (apply kOBin; (first | exact aBin)) | (apply kOCall; (first | (apply kCallF; (first | exact (ov_call rfl (fun w hw => c_eqImage a.buf c.buf _ _ w (riA hw) (riA hw))))) | (apply kCallB; (first | exact aBlt | exact aLenR)))) | (apply kOLoad; (first | exact aLdF | exact aLdR)) | exact ov_fieldAddr rfl | (apply kOIdx; (first | exact aIdx)) | exact aRest | exact aNew | exact (ov_field1 (ft := 37) rfl rfl rfl rfl))) | (refine kN ?_; (first | (refine kStore ?_; (first | refine s_store1 _ rfl rfl gpA rfl (by rfl) ?_ | refine s_storeS _ rfl rfl gpA rfl rfl (by rfl) ?_ | refine s_storeS _ rfl rfl gpA rfl (ones_img oiA) (by rfl) ?_)) | refine s_boxS rfl rfl (fun b hb => ?_) | refine s_allocS rfl (fun b hb => ?_) | refine s_box1 rfl rfl rfl (fun b hb => ?_) | refine s_alloc1 rfl rfl (fun b hb => ?_) | refine s_buildSlice0 rfl (fun b hb => ?_) | refine s_buildSlice rfl rfl rfl rfl rfl (fun b hb => ?_) | apply s_step)) | (refine kG ?_; (first | refine s_gyes rfl rfl rfl ?_ | refine s_gno rfl rfl rfl rfl rfl ?_ | ((first | refine s_split_d rfl rfl (fun h => ?_) (fun h => ?_) | refine s_split_n rfl rfl (fun h => ?_) (fun h => ?_)) <;> (try (first | contradiction | (exfalso; omega)))) | refine s_split_nb rfl rfl (fun h => ?_) (fun h => ?_) | refine s_split rfl rfl (fun h => ?_) (fun h => ?_))) | refine l_then ?_ | (refine kC ?_; (first | refine c_seq ?_ | refine c_regionN rfl ?_ | refine c_ret ?_ | (refine kCond ?_; (first | refine c_cond_t rfl ?_ | refine c_cond_f rfl ?_ | ((first | refine c_cond_d rfl (fun h => ?_) (fun h => ?_) | refine c_cond_n rfl (fun h => ?_) (fun h => ?_)) <;> (try (first | contradiction | (exfalso; omega)))) | refine c_cond_nb rfl (fun h => ?_) (fun h => ?_) | refine c_cond rfl (fun h => ?_) (fun h => ?_))) | refine c_block ?_ | refine c_skip ?_ | refine c_exit ?_ | refine c_regionQN rfl rfl (by decide +kernel) ?_)) | apply s_stepQ | (refine kQG ?_; (first | refine s_gyesQ rfl rfl rfl ?_ | refine s_gnoQ rfl rfl rfl rfl rfl ?_ | ((first | refine s_splitQ_d rfl rfl (fun h => ?_) (fun h => ?_) | refine s_splitQ_n rfl rfl (fun h => ?_) (fun h => ?_)) <;> (try (first | contradiction | (exfalso; omega)))) | refine s_splitQ_nb rfl rfl (fun h => ?_) (fun h => ?_) | refine s_splitQ rfl rfl (fun h => ?_) (fun h => ?_))) | refine lQ_then ?_ | refine lQ_ends ?_ | (refine kE ?_; (first | refine e_then_r ?_ | refine e_block_r ?_ | refine e_then_n ?_ | refine e_then_x ?_ | refine e_block_n ?_ | refine e_block_x ?_ | refine e_block_y rfl ?_)) | refine l_ends ?_)
  all_goals refine s_leave1 rfl rfl (fun w hw => ⟨?_, hw.below⟩)
  all_goals first | exact ret_false (fun e => by subst e; first | contradiction | (simp at *; done)) | exact ret_true (DSurf.eq (by omega) (by omega) (by omega) (by omega) (by omega) (by omega) (by omega) (by simp_all) (by assumption))
theorem c_szSurfaceS (v : Value) (l : List DSurf) (left : Int) (w : World) (hv : RS eSurf w v l) (hl : 0 ≤ left ∧ left ≤ 1048576) : SYields Try.prog 145 #[v, .int .i64 left] (.int .i64 (szI (surfsLen l) left)) w := by
  obtain ⟨ds, hv⟩ := hv
  have hk := hv.row.len
  have hm := fun j => sumTo_mono (fun i => (l.getD i default).buf.data.length) (i := j) (n := l.length)
  have hs := fun j => (show sumTo (fun i => (l.getD i default).buf.data.length) (j + 1) = sumTo (fun i => (l.getD i default).buf.data.length) j + (l.getD j default).buf.data.length from rfl)
  (first | apply SYields.mk | apply SYieldsF.mk | skip); refine s_enter Try.func145 rfl Try.ntmps145 rfl ?_
  repeat' (first | exact rfl | (apply kO; (first | exact ov_pure rfl | (apply kOBin; (first | exact aBin)) | (apply kOCall; (first | (apply kCallF; (first | exact (ov_call rfl (fun w hw => c_szSurface _ _ _ w (RInts.keep (hv.rd _ (by omega)) (hw.cells rfl)) (by omega))))) | (apply kCallB; (first | exact aBlt | exact aLenR)))) | (apply kOLoad; (first | exact aLdF | exact aLdR)) | exact ov_fieldAddr rfl | (apply kOIdx; (first | exact aIdx)) | exact aRest | exact aNew | exact (ov_field1 (ft := 37) rfl rfl rfl rfl))) | (refine kN ?_; (first | (refine kStore ?_; (first | refine s_store1 _ rfl rfl gpA rfl (by rfl) ?_ | refine s_storeS _ rfl rfl gpA rfl rfl (by rfl) ?_ | refine s_storeS _ rfl rfl gpA rfl (ones_img oiA) (by rfl) ?_)) | refine s_boxS rfl rfl (fun b hb => ?_) | refine s_allocS rfl (fun b hb => ?_) | refine s_box1 rfl rfl rfl (fun b hb => ?_) | refine s_alloc1 rfl rfl (fun b hb => ?_) | refine s_buildSlice0 rfl (fun b hb => ?_) | refine s_buildSlice rfl rfl rfl rfl rfl (fun b hb => ?_) | apply s_step)) | (refine kG ?_; (first | refine s_gyes rfl rfl rfl ?_ | refine s_gno rfl rfl rfl rfl rfl ?_ | ((first | refine s_split_d rfl rfl (fun h => ?_) (fun h => ?_) | refine s_split_n rfl rfl (fun h => ?_) (fun h => ?_)) <;> (try (first | contradiction | (exfalso; omega)))) | refine s_split_nb rfl rfl (fun h => ?_) (fun h => ?_) | refine s_split rfl rfl (fun h => ?_) (fun h => ?_))) | refine l_then ?_ | (refine kC ?_; (first | (refine c_loopV (ι := Nat) (fun j => j ≤ l.length ∧ 0 ≤ left - (l.length + sumTo (fun i => (l.getD i default).buf.data.length) j : Nat)) (fun j => [(1, .int .i64 (left - (l.length + sumTo (fun i => (l.getD i default).buf.data.length) j : Nat))), (5, .int .i64 (j : Int))]) (fun _ => []) (fun j => l.length - j) 0 ⟨by omega, by simp [sumTo]; omega⟩ rfl (fun _ => rfl) ⟨slook_to rfl (vint_to (by simp [sumTo])), rfl, trivial⟩ (fun w hw => hw) (fun j hj => ?_)) | refine c_seq ?_ | refine c_regionN rfl ?_ | refine c_ret ?_ | (refine kCond ?_; (first | refine c_cond_t rfl ?_ | refine c_cond_f rfl ?_ | ((first | refine c_cond_d rfl (fun h => ?_) (fun h => ?_) | refine c_cond_n rfl (fun h => ?_) (fun h => ?_)) <;> (try (first | contradiction | (exfalso; omega)))) | refine c_cond_nb rfl (fun h => ?_) (fun h => ?_) | refine c_cond rfl (fun h => ?_) (fun h => ?_))) | refine c_block ?_ | refine c_skip ?_ | refine c_exit ?_ | refine c_regionQN rfl rfl (by decide +kernel) ?_)) | apply s_stepQ | (refine kQG ?_; (first | refine s_gyesQ rfl rfl rfl ?_ | refine s_gnoQ rfl rfl rfl rfl rfl ?_ | ((first | refine s_splitQ_d rfl rfl (fun h => ?_) (fun h => ?_) | refine s_splitQ_n rfl rfl (fun h => ?_) (fun h => ?_)) <;> (try (first | contradiction | (exfalso; omega)))) | refine s_splitQ_nb rfl rfl (fun h => ?_) (fun h => ?_) | refine s_splitQ rfl rfl (fun h => ?_) (fun h => ?_))) | refine lQ_then ?_ | refine lQ_ends ?_ | (refine kE ?_; (first | refine e_then_r ?_ | refine e_block_r ?_ | refine e_then_n ?_ | refine e_then_x ?_ | refine e_block_n ?_ | refine e_block_x ?_ | refine e_block_y rfl ?_)) | refine l_ends ?_)
  all_goals try simp only [Int.toNat_natCast, eSurf_dflt] at *
  · exact s_leave1 rfl rfl (fun w hw => ⟨ret_int (by unfold szI surfsLen; rw [if_pos (by omega)]), hw.below⟩)
  · have h1 := hs j
    have h2 := hm (j + 1) (by omega)
    exact s_leave1 rfl rfl (fun w hw => ⟨ret_int (by unfold szI at *; unfold surfsLen; rw [if_pos (by split at h <;> omega)]), hw.below⟩)
  · have h1 := hs j
    have h2 := hm (j + 1) (by omega)
    have h3 : szI (l.getD j default).buf.data.length (left - (l.length + sumTo (fun i => (l.getD i default).buf.data.length) j : Nat)) = left - (l.length + sumTo (fun i => (l.getD i default).buf.data.length) (j + 1) : Nat) := by
      unfold szI at *; split at h
      · omega
      · rw [if_neg (by assumption)]; omega
    exact e_round (j + 1) ⟨by omega, by rw [h3] at h; omega⟩ ⟨slook_to rfl (vint_to h3), rfl, (by repeat' first | exact trivial | refine ⟨rfl, ?_⟩)⟩ (fun w hw => hw) (by omega)
  · obtain rfl : j = l.length := by omega
    exact s_leave1 rfl rfl (fun w hw => ⟨ret_int (by unfold szI surfsLen; rw [if_neg (by omega)]), hw.below⟩)
theorem c_toSurfaceS (v : Value) (l : List DSurf) (w : World) (hv : RS eSurf w v l) (hl : surfsLen l ≤ 1048576) : SYieldsF Try.prog 149 #[v] (fun u H => OElems eSurf 62 u l H) w := by
  obtain ⟨ds, hv⟩ := hv
  have hk := hv.row.len
  have hln : l.length ≤ surfsLen l := by unfold surfsLen; omega
  have hdn : ∀ i, i < l.length → (l.getD i default).buf.data.length ≤ 1048576 := fun i hi => by have := le_sumTo (fun i => (l.getD i default).buf.data.length) hi; unfold surfsLen at hl; omega
  (first | apply SYields.mk | apply SYieldsF.mk | skip); refine s_enter Try.func149 rfl Try.ntmps149 rfl ?_
  repeat' (first | exact rfl | (apply kO; (first | exact ov_pure rfl | (apply kOBin; (first | exact aBin)) | (apply kOCall; (first | (apply kCallB; (first | exact aBlt | exact aLenR)))) | (apply kOLoad; (first | exact aLdF | exact aLdR)) | exact ov_fieldAddr rfl | (apply kOIdx; (first | exact aIdx)) | exact aRest | exact aNew | exact (ov_field1 (ft := 37) rfl rfl rfl rfl))) | (refine kN ?_; (first | (refine kCall ?_; (first | (refine kWFunc ?_; (refine s_callF (fun u H => OSurf u (l.getD j.1 default) H) rfl (fun w hw => c_toSurface _ _ w (RInts.keep (hv.rd _ (by omega)) (hw.cells rfl)) (hdn _ (by omega))) rfl (fun u H hu => ?_); obtain ⟨d', rfl, hu⟩ := hu; obtain ⟨ua, uc, rfl⟩ := hu.form)) | apply s_step)) | (refine kStore ?_; (first | (refine s_setRS 1 rfl rfl rfl rfl rfl (by rw [efill_length _ _ _ _ rfl _ _ (by omega)]; simp only [eSurf, List.length_cons, List.length_nil]; omega) ?_) | refine s_store1 _ rfl rfl gpA rfl (by rfl) ?_ | refine s_storeS _ rfl rfl gpA rfl rfl (by rfl) ?_ | refine s_storeS _ rfl rfl gpA rfl (ones_img oiA) (by rfl) ?_)) | refine s_boxS rfl rfl (fun b hb => ?_) | refine s_allocS rfl (fun b hb => ?_) | refine s_box1 rfl rfl rfl (fun b hb => ?_) | refine s_alloc1 rfl rfl (fun b hb => ?_) | (refine kWMake ?_; (refine s_makeS rfl rfl rfl (by decide) ⟨by omega, by omega, by omega⟩ (by omega) rfl (fun b hb => ?_))) | refine s_buildSlice0 rfl (fun b hb => ?_) | refine s_buildSlice rfl rfl rfl rfl rfl (fun b hb => ?_) | apply s_step)) | (refine kG ?_; (first | refine s_gyes rfl rfl rfl ?_ | refine s_gno rfl rfl rfl rfl rfl ?_ | ((first | refine s_split_d rfl rfl (fun h => ?_) (fun h => ?_) | refine s_split_n rfl rfl (fun h => ?_) (fun h => ?_)) <;> (try (first | contradiction | (exfalso; omega)))) | refine s_split_nb rfl rfl (fun h => ?_) (fun h => ?_) | refine s_split rfl rfl (fun h => ?_) (fun h => ?_))) | refine l_then ?_ | (refine kC ?_; (first | (refine c_loopV (ι := Nat × (Nat → Value) × (Nat → SPiece)) (fun j => j.1 ≤ l.length ∧ ∀ i, i < j.1 → eSurf.own (j.2.1 i) (l.getD i eSurf.dflt) (j.2.2 i)) (fun j => [(4, .int .i64 (j.1 : Int))]) (fun j => [[(b, srow (efill eSurf l j.2.1 [.int .i64 0, .int .i64 0, .int .i64 0, .int .i64 0, .int .i64 0, .int .i64 0, .int .i64 0, .bool false, .int .i64 0, .int .i64 0, .slice none 0 0] l.length j.1) 62)], ecat j.2.2 j.1]) (fun j => l.length - j.1) (0, fun _ => undef, fun _ => []) ⟨by omega, fun i hi => by omega⟩ rfl (fun _ => rfl) ⟨rfl, trivial⟩ (fun w hw => by rw [efill_zero]; exact SSt.lone hw) (fun j hj => ?_)) | refine c_seq ?_ | refine c_regionN rfl ?_ | refine c_ret ?_ | (refine kCond ?_; (first | refine c_cond_t rfl ?_ | refine c_cond_f rfl ?_ | ((first | refine c_cond_d rfl (fun h => ?_) (fun h => ?_) | refine c_cond_n rfl (fun h => ?_) (fun h => ?_)) <;> (try (first | contradiction | (exfalso; omega)))) | refine c_cond_nb rfl (fun h => ?_) (fun h => ?_) | refine c_cond rfl (fun h => ?_) (fun h => ?_))) | refine c_block ?_ | refine c_skip ?_ | refine c_exit ?_ | refine c_regionQN rfl rfl (by decide +kernel) ?_)) | apply s_stepQ | (refine kQG ?_; (first | refine s_gyesQ rfl rfl rfl ?_ | refine s_gnoQ rfl rfl rfl rfl rfl ?_ | ((first | refine s_splitQ_d rfl rfl (fun h => ?_) (fun h => ?_) | refine s_splitQ_n rfl rfl (fun h => ?_) (fun h => ?_)) <;> (try (first | contradiction | (exfalso; omega)))) | refine s_splitQ_nb rfl rfl (fun h => ?_) (fun h => ?_) | refine s_splitQ rfl rfl (fun h => ?_) (fun h => ?_))) | refine lQ_then ?_ | refine lQ_ends ?_ | (refine kE ?_; (first | refine e_then_r ?_ | refine e_block_r ?_ | refine e_then_n ?_ | refine e_then_x ?_ | refine e_block_n ?_ | refine e_block_x ?_ | refine e_block_y rfl ?_)) | refine l_ends ?_)
  · refine e_round (j.1 + 1, upd j.2.1 j.1 (.slice ua (l.getD j.1 default).buf.data.length uc), upd j.2.2 j.1 H) ⟨by dsimp only; omega, fun i hi => ?_⟩ ⟨rfl, (by repeat' first | exact trivial | refine ⟨rfl, ?_⟩)⟩ (fun w hw => ?_) (by dsimp only; omega)
    · dsimp only at hi ⊢
      by_cases e : i = j.1
      · subst e; rw [upd_at, upd_at]; exact hu
      · rw [upd_old _ _ e, upd_old _ _ e]; exact hj.2 i (by omega)
    · dsimp only
      have hw := SSt.regroup hw
      rw [ecat_upd, ← efill_next eSurf l j.2.1 _ _ rfl l.length j.1 (by omega) _ (fun i hi => upd_old _ _ (by omega)) (upd_at _ _ _)]
      rw [show 0 + (j.1 : Int).toNat * 11 = j.1 * eSurf.k by rw [Int.toNat_natCast, Nat.zero_add]; rfl] at hw
      exact hw
  · have he : j.1 = l.length := by omega
    rw [he, efill_all]
    refine s_leave1 rfl rfl (fun w hw => ⟨_, _, rfl, ?_, hw.whole⟩)
    exact OElems.mk b (fun i hi => hj.2 i (by omega)) (by unfold maxLen; omega)
theorem c_eqSurfaceS (u v : Value) (k l : List DSurf) (w : World) (hu : RS eSurf w u k) (hv : RS eSurf w v l) : SYields Try.prog 151 #[u, v] (.bool (decide (k = l))) w := by
  obtain ⟨ds, hu⟩ := hu
  obtain ⟨es, hv⟩ := hv
  have hk := hu.row.len
  have hl := hv.row.len
  (first | apply SYields.mk | apply SYieldsF.mk | skip); refine s_enter Try.func151 rfl Try.ntmps151 rfl ?_
  repeat' (first | exact rfl | (apply kO; (first | exact ov_pure rfl | (apply kOBin; (first | exact aBin)) | (apply kOCall; (first | (apply kCallF; (first | exact (ov_call rfl (fun w hw => c_eqSurface _ _ _ _ w (RInts.keep (hu.rd _ (by omega)) (hw.cells rfl)) (RInts.keep (hv.rd _ (by omega)) (hw.cells rfl)))))) | (apply kCallB; (first | exact aBlt | exact (ov_lenR (fun w hw => hu.row.keep (hw.cells rfl)) rfl) | exact (ov_lenR (fun w hw => hv.row.keep (hw.cells rfl)) rfl) | exact aLenR)))) | (apply kOLoad; (first | exact (ov_ldRZ (fun w hw => hu.row.keep (hw.cells rfl)) rfl rfl (by omega) rfl) | exact (ov_ldRZ (fun w hw => hv.row.keep (hw.cells rfl)) rfl rfl (by omega) rfl) | exact aLdF | exact aLdR)) | exact ov_fieldAddr rfl | (apply kOIdx; (first | exact (ov_idxR (fun w hw => hu.row.keep (hw.cells rfl)) rfl rfl (by omega)) | exact (ov_idxR (fun w hw => hv.row.keep (hw.cells rfl)) rfl rfl (by omega)) | exact aIdx)) | exact aRest | exact aNew | exact (ov_field1 (ft := 37) rfl rfl rfl rfl))) | (refine kN ?_; (first | (refine kStore ?_; (first | refine s_store1 _ rfl rfl gpA rfl (by rfl) ?_ | refine s_storeS _ rfl rfl gpA rfl rfl (by rfl) ?_ | refine s_storeS _ rfl rfl gpA rfl (ones_img oiA) (by rfl) ?_)) | refine s_boxS rfl rfl (fun b hb => ?_) | refine s_allocS rfl (fun b hb => ?_) | refine s_box1 rfl rfl rfl (fun b hb => ?_) | refine s_alloc1 rfl rfl (fun b hb => ?_) | refine s_buildSlice0 rfl (fun b hb => ?_) | refine s_buildSlice rfl rfl rfl rfl rfl (fun b hb => ?_) | apply s_step)) | (refine kG ?_; (first | refine s_gyes rfl rfl rfl ?_ | refine s_gno rfl rfl rfl rfl rfl ?_ | ((first | refine s_split_d rfl rfl (fun h => ?_) (fun h => ?_) | refine s_split_n rfl rfl (fun h => ?_) (fun h => ?_)) <;> (try (first | contradiction | (exfalso; omega)))) | refine s_split_nb rfl rfl (fun h => ?_) (fun h => ?_) | refine s_split rfl rfl (fun h => ?_) (fun h => ?_))) | refine l_then ?_ | (refine kC ?_; (first | (refine c_loopV (ι := Nat) (fun j => j ≤ k.length ∧ eqTo k l default j) (fun j => [(5, .int .i64 (j : Int))]) (fun _ => []) (fun j => k.length - j) 0 ⟨by omega, eqTo_zero _ _ _⟩ rfl (fun _ => rfl) ⟨rfl, trivial⟩ (fun w hw => hw) (fun j hj => ?_)) | refine c_seq ?_ | refine c_regionN rfl ?_ | refine c_ret ?_ | (refine kCond ?_; (first | refine c_cond_t rfl ?_ | refine c_cond_f rfl ?_ | ((first | refine c_cond_d rfl (fun h => ?_) (fun h => ?_) | refine c_cond_n rfl (fun h => ?_) (fun h => ?_)) <;> (try (first | contradiction | (exfalso; omega)))) | refine c_cond_nb rfl (fun h => ?_) (fun h => ?_) | refine c_cond rfl (fun h => ?_) (fun h => ?_))) | refine c_block ?_ | refine c_skip ?_ | refine c_exit ?_ | refine c_regionQN rfl rfl (by decide +kernel) ?_)) | apply s_stepQ | (refine kQG ?_; (first | refine s_gyesQ rfl rfl rfl ?_ | refine s_gnoQ rfl rfl rfl rfl rfl ?_ | ((first | refine s_splitQ_d rfl rfl (fun h => ?_) (fun h => ?_) | refine s_splitQ_n rfl rfl (fun h => ?_) (fun h => ?_)) <;> (try (first | contradiction | (exfalso; omega)))) | refine s_splitQ_nb rfl rfl (fun h => ?_) (fun h => ?_) | refine s_splitQ rfl rfl (fun h => ?_) (fun h => ?_))) | refine lQ_then ?_ | refine lQ_ends ?_ | (refine kE ?_; (first | refine e_then_r ?_ | refine e_block_r ?_ | refine e_then_n ?_ | refine e_then_x ?_ | refine e_block_n ?_ | refine e_block_x ?_ | refine e_block_y rfl ?_)) | refine l_ends ?_)
  all_goals try simp only [Int.toNat_natCast, eSurf_dflt] at *
  · exact s_leave1 rfl rfl (fun w hw => ⟨ret_false (ne_of_len (by omega)), hw.below⟩)
  · exact s_leave1 rfl rfl (fun w hw => ⟨ret_false (fun e => by subst e; contradiction), hw.below⟩)
  · exact e_round (j + 1) ⟨by omega, eqTo_next hj.2 (by assumption)⟩ ⟨rfl, (by repeat' first | exact trivial | refine ⟨rfl, ?_⟩)⟩ (fun w hw => hw) (by omega)
  · exact s_leave1 rfl rfl (fun w hw => ⟨ret_true (list_eq_of_getD default (by omega) (fun i hi => hj.2 i (by omega))), hw.below⟩)
theorem c_szScene (s : DScene) (v : Value) (left : Int) (w : World) (hv : RS eSurf w v s.ss) (hl : 0 ≤ left ∧ left ≤ 1048576) : SYields Try.prog 58 #[vScene s v, .int .i64 left] (.int .i64 (szI (surfsLen s.ss) left)) w := by
  (first | apply SYields.mk | apply SYieldsF.mk | skip); refine s_enter Try.func58 rfl Try.ntmps58 rfl ?_
  repeat' (first | exact rfl | (apply kO; (first | exact ov_pure rfl | (apply kOBin; (first | exact aBin)) | (apply kOCall; (first | (apply kCallF; (first | exact (ov_call rfl (fun w hw => c_szSurfaceS _ _ _ w (reA hw) (by omega))))) | (apply kCallB; (first | exact aBlt | exact aLenR)))) | (apply kOLoad; (first | exact aLdF | exact aLdR)) | exact ov_fieldAddr rfl | (apply kOIdx; (first | exact aIdx)) | exact aRest | exact aNew | exact (ov_field1 (ft := 37) rfl rfl rfl rfl))) | (refine kN ?_; (first | (refine kStore ?_; (first | refine s_store1 _ rfl rfl gpA rfl (by rfl) ?_ | refine s_storeS _ rfl rfl gpA rfl rfl (by rfl) ?_ | refine s_storeS _ rfl rfl gpA rfl (ones_img oiA) (by rfl) ?_)) | refine s_boxS rfl rfl (fun b hb => ?_) | refine s_allocS rfl (fun b hb => ?_) | refine s_box1 rfl rfl rfl (fun b hb => ?_) | refine s_alloc1 rfl rfl (fun b hb => ?_) | refine s_buildSlice0 rfl (fun b hb => ?_) | refine s_buildSlice rfl rfl rfl rfl rfl (fun b hb => ?_) | apply s_step)) | (refine kG ?_; (first | refine s_gyes rfl rfl rfl ?_ | refine s_gno rfl rfl rfl rfl rfl ?_ | ((first | refine s_split_d rfl rfl (fun h => ?_) (fun h => ?_) | refine s_split_n rfl rfl (fun h => ?_) (fun h => ?_)) <;> (try (first | contradiction | (exfalso; omega)))) | refine s_split_nb rfl rfl (fun h => ?_) (fun h => ?_) | refine s_split rfl rfl (fun h => ?_) (fun h => ?_))) | refine l_then ?_ | (refine kC ?_; (first | refine c_seq ?_ | refine c_regionN rfl ?_ | refine c_ret ?_ | (refine kCond ?_; (first | refine c_cond_t rfl ?_ | refine c_cond_f rfl ?_ | ((first | refine c_cond_d rfl (fun h => ?_) (fun h => ?_) | refine c_cond_n rfl (fun h => ?_) (fun h => ?_)) <;> (try (first | contradiction | (exfalso; omega)))) | refine c_cond_nb rfl (fun h => ?_) (fun h => ?_) | refine c_cond rfl (fun h => ?_) (fun h => ?_))) | refine c_block ?_ | refine c_skip ?_ | refine c_exit ?_ | refine c_regionQN rfl rfl (by decide +kernel) ?_)) | apply s_stepQ | (refine kQG ?_; (first | refine s_gyesQ rfl rfl rfl ?_ | refine s_gnoQ rfl rfl rfl rfl rfl ?_ | ((first | refine s_splitQ_d rfl rfl (fun h => ?_) (fun h => ?_) | refine s_splitQ_n rfl rfl (fun h => ?_) (fun h => ?_)) <;> (try (first | contradiction | (exfalso; omega)))) | refine s_splitQ_nb rfl rfl (fun h => ?_) (fun h => ?_) | refine s_splitQ rfl rfl (fun h => ?_) (fun h => ?_))) | refine lQ_then ?_ | refine lQ_ends ?_ | (refine kE ?_; (first | refine e_then_r ?_ | refine e_block_r ?_ | refine e_then_n ?_ | refine e_then_x ?_ | refine e_block_n ?_ | refine e_block_x ?_ | refine e_block_y rfl ?_)) | refine l_ends ?_)
  all_goals refine s_leave1 rfl rfl (fun w hw => ⟨?_, hw.below⟩)
  all_goals (refine ret_int ?_; unfold szI at *; (repeat' split at *) <;> omega)
def OScene (u : Value) (s : DScene) (H : SPiece) : Prop := ∃ v, u = vScene s v ∧ OElems eSurf 62 v s.ss H
theorem c_toScene (s : DScene) (v : Value) (w : World) (hv : RS eSurf w v s.ss) (hl : surfsLen s.ss ≤ 1048576) : SYieldsF Try.prog 60 #[vScene s v] (fun u H => OScene u s H) w := by
  have hv' := hv.form
  obtain ⟨_, _, rfl⟩ := hv'
  (first | apply SYields.mk | apply SYieldsF.mk | skip); refine s_enter Try.func60 rfl Try.ntmps60 rfl ?_
  repeat' (first | exact rfl | (apply kO; (first | exact ov_pure rfl | (apply kOBin; (first | exact aBin)) | (apply kOCall; (first | (apply kCallB; (first | exact aBlt | exact aLenR)))) | (apply kOLoad; (first | exact aLdF | exact aLdR)) | exact ov_fieldAddr rfl | (apply kOIdx; (first | exact aIdx)) | exact aRest | exact aNew | exact (ov_field1 (ft := 37) rfl rfl rfl rfl))) | (refine kN ?_; (first | (refine kCall ?_; (first | (refine kWFunc ?_; (refine s_callF (fun u H => OElems eSurf 62 u s.ss H) rfl (fun w hw => c_toSurfaceS _ _ w (reA hw) hl) rfl (fun u H hu => ?_); have f1 := hu.form; obtain ⟨_, _, rfl⟩ := f1)) | apply s_step)) | (refine kStore ?_; (first | refine s_store1 _ rfl rfl gpA rfl (by rfl) ?_ | refine s_storeS _ rfl rfl gpA rfl rfl (by rfl) ?_ | refine s_storeS _ rfl rfl gpA rfl (ones_img oiA) (by rfl) ?_)) | refine s_boxS rfl rfl (fun b hb => ?_) | refine s_allocS rfl (fun b hb => ?_) | refine s_box1 rfl rfl rfl (fun b hb => ?_) | refine s_alloc1 rfl rfl (fun b hb => ?_) | refine s_buildSlice0 rfl (fun b hb => ?_) | refine s_buildSlice rfl rfl rfl rfl rfl (fun b hb => ?_) | apply s_step)) | (refine kG ?_; (first | refine s_gyes rfl rfl rfl ?_ | refine s_gno rfl rfl rfl rfl rfl ?_ | ((first | refine s_split_d rfl rfl (fun h => ?_) (fun h => ?_) | refine s_split_n rfl rfl (fun h => ?_) (fun h => ?_)) <;> (try (first | contradiction | (exfalso; omega)))) | refine s_split_nb rfl rfl (fun h => ?_) (fun h => ?_) | refine s_split rfl rfl (fun h => ?_) (fun h => ?_))) | refine l_then ?_ | (refine kC ?_; (first | refine c_seq ?_ | refine c_regionN rfl ?_ | refine c_ret ?_ | (refine kCond ?_; (first | refine c_cond_t rfl ?_ | refine c_cond_f rfl ?_ | ((first | refine c_cond_d rfl (fun h => ?_) (fun h => ?_) | refine c_cond_n rfl (fun h => ?_) (fun h => ?_)) <;> (try (first | contradiction | (exfalso; omega)))) | refine c_cond_nb rfl (fun h => ?_) (fun h => ?_) | refine c_cond rfl (fun h => ?_) (fun h => ?_))) | refine c_block ?_ | refine c_skip ?_ | refine c_exit ?_ | refine c_regionQN rfl rfl (by decide +kernel) ?_)) | apply s_stepQ | (refine kQG ?_; (first | refine s_gyesQ rfl rfl rfl ?_ | refine s_gnoQ rfl rfl rfl rfl rfl ?_ | ((first | refine s_splitQ_d rfl rfl (fun h => ?_) (fun h => ?_) | refine s_splitQ_n rfl rfl (fun h => ?_) (fun h => ?_)) <;> (try (first | contradiction | (exfalso; omega)))) | refine s_splitQ_nb rfl rfl (fun h => ?_) (fun h => ?_) | refine s_splitQ rfl rfl (fun h => ?_) (fun h => ?_))) | refine lQ_then ?_ | refine lQ_ends ?_ | (refine kE ?_; (first | refine e_then_r ?_ | refine e_block_r ?_ | refine e_then_n ?_ | refine e_then_x ?_ | refine e_block_n ?_ | refine e_block_x ?_ | refine e_block_y rfl ?_)) | refine l_ends ?_)
  all_goals (refine kE ?_; refine s_leaveSF rfl rfl rfl fwA (fun w hw => ?_))
  exact ⟨_, _, rfl, ⟨_, rfl, by assumption⟩, hw.toFresh (i := 0) rfl⟩
theorem c_eqScene (a c : DScene) (u v : Value) (w : World) (hu : RS eSurf w u a.ss) (hv : RS eSurf w v c.ss) : SYields Try.prog 62 #[vScene a u, vScene c v] (.bool (decide (a = c))) w := by
  (first | apply SYields.mk | apply SYieldsF.mk | skip); refine s_enter Try.func62 rfl Try.ntmps62 rfl ?_
  repeat' (first | exact rfl | (apply kO; (first | exact ov_pure rfl | (apply kOBin; (first | exact aBin)) | (apply kOCall; (first | (apply kCallF; (first | exact (ov_call rfl (fun w hw => c_eqSurfaceS _ _ _ _ w (reA hw) (reA hw))))) | (apply kCallB; (first | exact aBlt | exact aLenR)))) | (apply kOLoad; (first | exact aLdF | exact aLdR)) | exact ov_fieldAddr rfl | (apply kOIdx; (first | exact aIdx)) | exact aRest | exact aNew | exact (ov_field1 (ft := 37) rfl rfl rfl rfl))) | (refine kN ?_; (first | (refine kStore ?_; (first | refine s_store1 _ rfl rfl gpA rfl (by rfl) ?_ | refine s_storeS _ rfl rfl gpA rfl rfl (by rfl) ?_ | refine s_storeS _ rfl rfl gpA rfl (ones_img oiA) (by rfl) ?_)) | refine s_boxS rfl rfl (fun b hb => ?_) | refine s_allocS rfl (fun b hb => ?_) | refine s_box1 rfl rfl rfl (fun b hb => ?_) | refine s_alloc1 rfl rfl (fun b hb => ?_) | refine s_buildSlice0 rfl (fun b hb => ?_) | refine s_buildSlice rfl rfl rfl rfl rfl (fun b hb => ?_) | apply s_step)) | (refine kG ?_; (first | refine s_gyes rfl rfl rfl ?_ | refine s_gno rfl rfl rfl rfl rfl ?_ | ((first | refine s_split_d rfl rfl (fun h => ?_) (fun h => ?_) | refine s_split_n rfl rfl (fun h => ?_) (fun h => ?_)) <;> (try (first | contradiction | (exfalso; omega)))) | refine s_split_nb rfl rfl (fun h => ?_) (fun h => ?_) | refine s_split rfl rfl (fun h => ?_) (fun h => ?_))) | refine l_then ?_ | (refine kC ?_; (first | refine c_seq ?_ | refine c_regionN rfl ?_ | refine c_ret ?_ | (refine kCond ?_; (first | refine c_cond_t rfl ?_ | refine c_cond_f rfl ?_ | ((first | refine c_cond_d rfl (fun h => ?_) (fun h => ?_) | refine c_cond_n rfl (fun h => ?_) (fun h => ?_)) <;> (try (first | contradiction | (exfalso; omega)))) | refine c_cond_nb rfl (fun h => ?_) (fun h => ?_) | refine c_cond rfl (fun h => ?_) (fun h => ?_))) | refine c_block ?_ | refine c_skip ?_ | refine c_exit ?_ | refine c_regionQN rfl rfl (by decide +kernel) ?_)) | apply s_stepQ | (refine kQG ?_; (first | refine s_gyesQ rfl rfl rfl ?_ | refine s_gnoQ rfl rfl rfl rfl rfl ?_ | ((first | refine s_splitQ_d rfl rfl (fun h => ?_) (fun h => ?_) | refine s_splitQ_n rfl rfl (fun h => ?_) (fun h => ?_)) <;> (try (first | contradiction | (exfalso; omega)))) | refine s_splitQ_nb rfl rfl (fun h => ?_) (fun h => ?_) | refine s_splitQ rfl rfl (fun h => ?_) (fun h => ?_))) | refine lQ_then ?_ | refine lQ_ends ?_ | (refine kE ?_; (first | refine e_then_r ?_ | refine e_block_r ?_ | refine e_then_n ?_ | refine e_then_x ?_ | refine e_block_n ?_ | refine e_block_x ?_ | refine e_block_y rfl ?_)) | refine l_ends ?_)
  all_goals refine s_leave1 rfl rfl (fun w hw => ⟨?_, hw.below⟩)
  all_goals first | exact ret_false (fun e => by subst e; contradiction) | exact ret_true (DScene.eq (by omega) (by omega) (by omega) (by assumption))
end Go.Proofs.Ytfmjeakcfmmkfaa
/-
  Rules for scenes that the laws mark.
-/
set_option linter.unusedVariables false
namespace Go.Proofs.Ytfmjeakcfmmkfaa
open Go Sx
attribute [local irreducible] Exit.then Exit.inBlock bodyPost
theorem OVec.inv {k : Nat} {T : TypeId} {v : Value} {n : Nat} {xs : List Value} {H : SPiece} (h : OVec k T v n xs H) : (v = .slice none 0 0 ∧ n = 0 ∧ H = []) ∨ ∃ b cap r, v = .slice (some ⟨b, 0, none⟩) n cap ∧ H = [(b, srow (xs ++ r) T)] ∧ (xs ++ r).length = cap * k ∧ n ≤ cap ∧ cap ≤ maxLen := by
  cases h with
  | nil => exact .inl ⟨rfl, rfl, rfl⟩
  | blk b n cap xs r h1 h2 h3 h4 => exact .inr ⟨b, cap, r, rfl, rfl, h2, h3, h4⟩
theorem erows_get {α : Type} {e : SElem α} {l : List α} {ds : Nat → Value} : ∀ {n i j : Nat}, i < n → j < e.k → (erows e l ds n)[i * e.k + j]? = (e.cells (l.getD i e.dflt) (ds i))[j]?
  | 0, i, j, hi, _ => by omega
  | n + 1, i, j, hi, hj => by
    have hl := erows_length e l ds n
    rw [erows_succ]
    by_cases h : i < n
    · have : i * e.k + j < n * e.k := by
        have := Nat.mul_le_mul_right e.k (show i + 1 ≤ n by omega)
        rw [Nat.succ_mul] at this; omega
      rw [List.getElem?_append_left (by omega)]
      exact erows_get h hj
    · obtain rfl : i = n := by omega
      rw [List.getElem?_append_right (by omega), hl, Nat.add_sub_cancel_left]
/-- the inner slices stay where they are -/
def keepsDs (ds : Nat → Value) (n : Nat) (cells : List Value) : Prop := ∀ i, i < n → cells[i * 11 + 10]? = some (ds i)
theorem keepsDs_set {ds : Nat → Value} {n o : Nat} {v : Value} {cells : List Value} (h : keepsDs ds n cells) (ho : o % 11 ≠ 10) : keepsDs ds n (cells.set o v) := fun i hi => by
  rw [List.getElem?_set_ne (by omega)]; exact h i hi
theorem keepsDs_get {ds : Nat → Value} {n i o : Nat} {cells : List Value} (h : keepsDs ds n cells) (hi : i < n) (ho : o = i * 11 + 10) : snth cells o = some (ds i) := by rw [snth_eq, ho]; exact h i hi
def ecatF (Hs : Nat → SPiece) (i m : Nat) : SPiece := (List.range m).flatMap (fun t => Hs (i + t))
theorem ecatF_all (Hs : Nat → SPiece) (n : Nat) : ecatF Hs 0 n = ecat Hs n := by unfold ecatF ecat; simp
theorem ecatF_cut (Hs : Nat → SPiece) {i n : Nat} (h : i < n) : ecatF Hs i (n - i) = Hs i ++ ecatF Hs (i + 1) (n - (i + 1)) := by
  unfold ecatF
  rw [show n - i = (n - (i + 1)) + 1 by omega, List.range_succ_eq_map, List.flatMap_cons, List.flatMap_map, Nat.add_zero]
  exact congrArg (fun f => Hs i ++ (List.range (n - (i + 1))).flatMap f) (funext fun t => by show Hs (i + (t + 1)) = _; rw [show i + (t + 1) = i + 1 + t by omega])
section
variable {P : Program} {n : Nat} {lo : SMut} {s : World} {ops : Array Oper} {Q : Exit → Act → World → Prop} {E : SEnv} {L : SHeap} {l : List Oper}
theorem w_cut {X A B C : SPiece} {R : SHeap} (e : C = A ++ B) (k : WPL P n lo s ops Q l E (X :: A :: B :: R)) : WPL P n lo s ops Q l E (X :: C :: R) := by
  subst e
  unfold WPL at *
  exact fun a w ha hw => k a w ha (hw.perm (by simp))
theorem c_regroup {c : Code} {L' : SHeap} (h : ∀ w, SSt lo s L w → SSt lo s L' w) (k : WPC P n lo s c Q E L') : WPC P n lo s c Q E L := by
  unfold WPC at *
  exact fun a w ha hw => k a w ha (h w hw)
end
theorem _root_.Sx.SSt.gone {lo : SMut} {s w : World} {L : SHeap} (h : SSt lo s L w) : SSt lo s [[], []] w := (h.sub (L' := []) (List.nil_sublist _)).nil0.nil0
set_option maxHeartbeats 4000000 in
theorem c_markSurfaceS (v : Value) (l : List DSurf) (H : SPiece) (k : Int) (W : World) (hv : OElems eSurf 62 v l H) (hH : Holds W H) (hn : H.keys.Nodup) (hk : 0 ≤ k ∧ k ≤ 1000000000) (hl : l.length ≤ 1048576 ∧ surfsLen l ≤ 1048576) :
    SYieldsG Try.prog 152 #[v, .int .i64 k] H (fun u H' F => u = .int .i64 (k + 9 * l.length + surfsLen l)) W := by
  obtain ⟨ds, H0, Hs, G, h1, h2, rfl⟩ := hv
  have hm := fun j => sumTo_mono (fun i => (l.getD i default).buf.data.length) (i := j) (n := l.length)
  have hs := fun j => (show sumTo (fun i => (l.getD i default).buf.data.length) (j + 1) = sumTo (fun i => (l.getD i default).buf.data.length) j + (l.getD j default).buf.data.length from rfl)
  have hsl : surfsLen l = l.length + sumTo (fun i => (l.getD i default).buf.data.length) l.length := rfl
  rcases OVec.inv h1 with ⟨rfl, hn0, rfl⟩ | ⟨b0, cap, r, rfl, rfl, hcap, hnc, hcm⟩
  · refine SYieldsG.mk (s_enterM Try.func152 rfl Try.ntmps152 rfl hH hn ?_)
    repeat' (first | exact rfl | (apply kO; (first | exact ov_pure rfl | (apply kOBin; (first | exact aBin)) | (apply kOCall; (first | (apply kCallB; (first | exact aBlt | exact aLenR)))) | (apply kOLoad; (first | exact aLdF | exact aLdR)) | exact ov_fieldAddr rfl | (apply kOIdx; (first | exact aIdx)) | exact aRest | exact aNew | exact (ov_field1 (ft := 37) rfl rfl rfl rfl))) | (refine kN ?_; (first | (refine kStore ?_; (first | refine s_store1 _ rfl rfl gpA rfl (by rfl) ?_ | refine s_storeS _ rfl rfl gpA rfl rfl (by rfl) ?_ | refine s_storeS _ rfl rfl gpA rfl (ones_img oiA) (by rfl) ?_)) | refine s_boxS rfl rfl (fun b hb => ?_) | refine s_allocS rfl (fun b hb => ?_) | refine s_box1 rfl rfl rfl (fun b hb => ?_) | refine s_alloc1 rfl rfl (fun b hb => ?_) | refine s_buildSlice0 rfl (fun b hb => ?_) | refine s_buildSlice rfl rfl rfl rfl rfl (fun b hb => ?_) | apply s_step)) | (refine kG ?_; (first | refine s_gyes rfl rfl rfl ?_ | refine s_gno rfl rfl rfl rfl rfl ?_ | ((first | refine s_split_d rfl rfl (fun h => ?_) (fun h => ?_) | refine s_split_n rfl rfl (fun h => ?_) (fun h => ?_)) <;> (try (first | contradiction | (exfalso; omega)))) | refine s_split_nb rfl rfl (fun h => ?_) (fun h => ?_) | refine s_split rfl rfl (fun h => ?_) (fun h => ?_))) | refine l_then ?_ | (refine kC ?_; (first | (refine c_loopV (ι := Nat) (fun j => j = 0) (fun j => [(5, .int .i64 (j : Int)), (1, .int .i64 k)]) (fun j => [_]) (fun j => 0) 0 rfl rfl (fun _ => rfl) ⟨rfl, rfl, trivial⟩ (fun w hw => hw) (fun j hj => ?_)) | refine c_seq ?_ | refine c_regionN rfl ?_ | refine c_ret ?_ | (refine kCond ?_; (first | refine c_cond_t rfl ?_ | refine c_cond_f rfl ?_ | ((first | refine c_cond_d rfl (fun h => ?_) (fun h => ?_) | refine c_cond_n rfl (fun h => ?_) (fun h => ?_)) <;> (try (first | contradiction | (exfalso; omega)))) | refine c_cond_nb rfl (fun h => ?_) (fun h => ?_) | refine c_cond rfl (fun h => ?_) (fun h => ?_))) | refine c_block ?_ | refine c_skip ?_ | refine c_exit ?_ | refine c_regionQN rfl rfl (by decide +kernel) ?_)) | apply s_stepQ | (refine kQG ?_; (first | refine s_gyesQ rfl rfl rfl ?_ | refine s_gnoQ rfl rfl rfl rfl rfl ?_ | ((first | refine s_splitQ_d rfl rfl (fun h => ?_) (fun h => ?_) | refine s_splitQ_n rfl rfl (fun h => ?_) (fun h => ?_)) <;> (try (first | contradiction | (exfalso; omega)))) | refine s_splitQ_nb rfl rfl (fun h => ?_) (fun h => ?_) | refine s_splitQ rfl rfl (fun h => ?_) (fun h => ?_))) | refine lQ_then ?_ | refine lQ_ends ?_ | (refine kE ?_; (first | refine e_then_r ?_ | refine e_block_r ?_ | refine e_then_n ?_ | refine e_then_x ?_ | refine e_block_n ?_ | refine e_block_x ?_ | refine e_block_y rfl ?_)) | refine l_ends ?_)
    all_goals
      exact s_leave1 rfl rfl (fun w hw => ⟨_, [], [], rfl, by rw [hsl, show l.length = 0 from by assumption]; simp [sumTo], hw.gone⟩)
  · have hkeep : keepsDs ds l.length (erows eSurf l ds l.length ++ r) := fun i hi => by
      have hlen := erows_length eSurf l ds l.length
      rw [List.getElem?_append_left (by rw [hlen]; show i * 11 + 10 < l.length * 11; omega)]
      exact erows_get (e := eSurf) (j := 10) hi (by decide)
    refine SYieldsG.mk (s_enterM Try.func152 rfl Try.ntmps152 rfl hH hn ?_)
    refine c_regroup (L' := [[(b0, srow (erows eSurf l ds l.length ++ r) 62)], ecatF Hs 0 (l.length - 0), G]) (fun w hw => hw.perm (by rw [Nat.sub_zero, ecatF_all]; simp)) ?_
    repeat' (first | exact rfl | (apply kO; (first | exact ov_pure rfl | (apply kOBin; (first | exact aBin | exact (ov_add rfl rfl (by have := hm j.1; omega)))) | (apply kOCall; (first | (apply kCallB; (first | exact aBlt | exact aLenR)))) | (apply kOLoad; (first | exact (ov_load rfl rfl (getL_flat (i := 0) rfl (List.mem_singleton.2 rfl)) (keepsDs_get (i := j.1) (by repeat' first | exact hj2 | apply keepsDs_set | omega) (by omega) (by omega))) | exact aLdF | exact aLdR)) | exact ov_fieldAddr rfl | (apply kOIdx; (first | exact (ov_indexAddr rfl rfl (by omega)) | exact aIdx)) | exact aRest | exact aNew | exact (ov_field1 (ft := 37) rfl rfl rfl rfl))) | (refine kN ?_; (first | (refine kCall ?_; (first | (refine kWFn 117 ?_; (refine w_cut (ecatF_cut Hs (i := j.1) (n := l.length) (by omega)) ?_; refine s_markI _ (l := (l.getD j.1 default).buf.data) rfl (show OInts 3 (ds j.1) (l.getD j.1 default).buf.data (Hs j.1) from h2 j.1 (by omega)) gpA (by have q1 := hm j.1 (by omega); have q2 := hm (j.1 + 1) (by omega); have q3 := hs j.1; omega) rfl (fun H' hu => ?_))) | apply s_step)) | (refine kStore ?_; (first | (refine s_setR 0 rfl rfl rfl rfl (by (try simp only [List.length_set]); omega) ?_) | refine s_store1 _ rfl rfl gpA rfl (by rfl) ?_ | refine s_storeS _ rfl rfl gpA rfl rfl (by rfl) ?_ | refine s_storeS _ rfl rfl gpA rfl (ones_img oiA) (by rfl) ?_)) | refine s_boxS rfl rfl (fun b hb => ?_) | refine s_allocS rfl (fun b hb => ?_) | refine s_box1 rfl rfl rfl (fun b hb => ?_) | refine s_alloc1 rfl rfl (fun b hb => ?_) | refine s_buildSlice0 rfl (fun b hb => ?_) | refine s_buildSlice rfl rfl rfl rfl rfl (fun b hb => ?_) | apply s_step)) | (refine kG ?_; (first | refine s_gyes rfl rfl rfl ?_ | refine s_gno rfl rfl rfl rfl rfl ?_ | ((first | refine s_split_d rfl rfl (fun h => ?_) (fun h => ?_) | refine s_split_n rfl rfl (fun h => ?_) (fun h => ?_)) <;> (try (first | contradiction | (exfalso; omega)))) | refine s_split_nb rfl rfl (fun h => ?_) (fun h => ?_) | refine s_split rfl rfl (fun h => ?_) (fun h => ?_))) | refine l_then ?_ | (refine kC ?_; (first | (refine c_loopV (ι := Nat × List Value) (fun j => j.1 ≤ l.length ∧ keepsDs ds l.length j.2 ∧ j.2.length = cap * 11) (fun j => [(5, .int .i64 (j.1 : Int)), (1, .int .i64 (k + 10 * (j.1 : Int) + (sumTo (fun i => (l.getD i default).buf.data.length) j.1 : Nat)))]) (fun j => [[(b0, srow j.2 62)], ecatF Hs j.1 (l.length - j.1), G]) (fun j => l.length - j.1) (0, _) ⟨by dsimp only; omega, hkeep, hcap⟩ rfl (fun _ => rfl) ⟨rfl, slook_to rfl (vint_to (by simp [sumTo])), trivial⟩ (fun w hw => hw) (fun j hj => ?_); obtain ⟨hj1, hj2, hj3⟩ := hj) | refine c_seq ?_ | refine c_regionN rfl ?_ | refine c_ret ?_ | (refine kCond ?_; (first | refine c_cond_t rfl ?_ | refine c_cond_f rfl ?_ | ((first | refine c_cond_d rfl (fun h => ?_) (fun h => ?_) | refine c_cond_n rfl (fun h => ?_) (fun h => ?_)) <;> (try (first | contradiction | (exfalso; omega)))) | refine c_cond_nb rfl (fun h => ?_) (fun h => ?_) | refine c_cond rfl (fun h => ?_) (fun h => ?_))) | refine c_block ?_ | refine c_skip ?_ | refine c_exit ?_ | refine c_regionQN rfl rfl (by decide +kernel) ?_)) | apply s_stepQ | (refine kQG ?_; (first | refine s_gyesQ rfl rfl rfl ?_ | refine s_gnoQ rfl rfl rfl rfl rfl ?_ | ((first | refine s_splitQ_d rfl rfl (fun h => ?_) (fun h => ?_) | refine s_splitQ_n rfl rfl (fun h => ?_) (fun h => ?_)) <;> (try (first | contradiction | (exfalso; omega)))) | refine s_splitQ_nb rfl rfl (fun h => ?_) (fun h => ?_) | refine s_splitQ rfl rfl (fun h => ?_) (fun h => ?_))) | refine lQ_then ?_ | refine lQ_ends ?_ | (refine kE ?_; (first | refine e_then_r ?_ | refine e_block_r ?_ | refine e_then_n ?_ | refine e_then_x ?_ | refine e_block_n ?_ | refine e_block_x ?_ | refine e_block_y rfl ?_)) | refine l_ends ?_)
    · have q1 := hm j.1 (by omega)
      exact e_round (j.1 + 1, _) ⟨by dsimp only; omega, by dsimp only; repeat' first | exact hj2 | apply keepsDs_set | omega, by dsimp only; simp only [List.length_set]; exact hj3⟩ ⟨slook_to rfl (vint_to (by push_cast; rfl)), slook_to rfl (vint_to (by rw [hs j.1]; push_cast; omega)), (by repeat' first | exact trivial | refine ⟨rfl, ?_⟩)⟩ (fun w hw => hw.sub (selO_sub [false, true, false, true, true] _ _ rfl)) (by dsimp only; omega)
    · have e : j.1 = l.length := by omega
      exact s_leave1 rfl rfl (fun w hw => ⟨_, [], [], rfl, by rw [hsl, e]; exact vint_to (by push_cast; omega), hw.gone⟩)
theorem c_markScene (x : DScene) (v : Value) (H : SPiece) (k : Int) (W : World) (hv : OElems eSurf 62 v x.ss H) (hH : Holds W H) (hn : H.keys.Nodup) (hk : 0 ≤ k ∧ k ≤ 1000000000) (hl : x.ss.length ≤ 1048576 ∧ surfsLen x.ss ≤ 1048576) :
    SYieldsG Try.prog 63 #[vScene x v, .int .i64 k] H (fun u H' F => u = .int .i64 (k + 9 * x.ss.length + surfsLen x.ss)) W := by
  refine SYieldsG.mk (s_enterM Try.func63 rfl Try.ntmps63 rfl hH hn ?_)
  repeat' (first | exact rfl | (apply kO; (first | exact ov_pure rfl | (apply kOBin; (first | exact aBin)) | (apply kOCall; (first | (apply kCallB; (first | exact aBlt | exact aLenR)))) | (apply kOLoad; (first | exact aLdF | exact aLdR)) | exact ov_fieldAddr rfl | (apply kOIdx; (first | exact aIdx)) | exact aRest | exact aNew | exact (ov_field1 (ft := 37) rfl rfl rfl rfl))) | (refine kN ?_; (first | (refine kCall ?_; (first | (refine kWFn 152 ?_; (refine s_callG _ (H := H) (fun u H' F => u = .int .i64 (k + 9 * x.ss.length + surfsLen x.ss)) rfl gpA (fun w hw hh hn => c_markSurfaceS v x.ss H k w hv hh hn hk hl) rfl (fun u H' F hu => ?_); subst hu)) | apply s_step)) | (refine kStore ?_; (first | refine s_store1 _ rfl rfl gpA rfl (by rfl) ?_ | refine s_storeS _ rfl rfl gpA rfl rfl (by rfl) ?_ | refine s_storeS _ rfl rfl gpA rfl (ones_img oiA) (by rfl) ?_)) | refine s_boxS rfl rfl (fun b hb => ?_) | refine s_allocS rfl (fun b hb => ?_) | refine s_box1 rfl rfl rfl (fun b hb => ?_) | refine s_alloc1 rfl rfl (fun b hb => ?_) | refine s_buildSlice0 rfl (fun b hb => ?_) | refine s_buildSlice rfl rfl rfl rfl rfl (fun b hb => ?_) | apply s_step)) | (refine kG ?_; (first | refine s_gyes rfl rfl rfl ?_ | refine s_gno rfl rfl rfl rfl rfl ?_ | ((first | refine s_split_d rfl rfl (fun h => ?_) (fun h => ?_) | refine s_split_n rfl rfl (fun h => ?_) (fun h => ?_)) <;> (try (first | contradiction | (exfalso; omega)))) | refine s_split_nb rfl rfl (fun h => ?_) (fun h => ?_) | refine s_split rfl rfl (fun h => ?_) (fun h => ?_))) | refine l_then ?_ | (refine kC ?_; (first | refine c_seq ?_ | refine c_regionN rfl ?_ | refine c_ret ?_ | (refine kCond ?_; (first | refine c_cond_t rfl ?_ | refine c_cond_f rfl ?_ | ((first | refine c_cond_d rfl (fun h => ?_) (fun h => ?_) | refine c_cond_n rfl (fun h => ?_) (fun h => ?_)) <;> (try (first | contradiction | (exfalso; omega)))) | refine c_cond_nb rfl (fun h => ?_) (fun h => ?_) | refine c_cond rfl (fun h => ?_) (fun h => ?_))) | refine c_block ?_ | refine c_skip ?_ | refine c_exit ?_ | refine c_regionQN rfl rfl (by decide +kernel) ?_)) | apply s_stepQ | (refine kQG ?_; (first | refine s_gyesQ rfl rfl rfl ?_ | refine s_gnoQ rfl rfl rfl rfl rfl ?_ | ((first | refine s_splitQ_d rfl rfl (fun h => ?_) (fun h => ?_) | refine s_splitQ_n rfl rfl (fun h => ?_) (fun h => ?_)) <;> (try (first | contradiction | (exfalso; omega)))) | refine s_splitQ_nb rfl rfl (fun h => ?_) (fun h => ?_) | refine s_splitQ rfl rfl (fun h => ?_) (fun h => ?_))) | refine lQ_then ?_ | refine lQ_ends ?_ | (refine kE ?_; (first | refine e_then_r ?_ | refine e_block_r ?_ | refine e_then_n ?_ | refine e_then_x ?_ | refine e_block_n ?_ | refine e_block_x ?_ | refine e_block_y rfl ?_)) | refine l_ends ?_)
  all_goals exact s_leave1 rfl rfl (fun w hw => ⟨_, [], [], rfl, rfl, hw.gone⟩)
section
variable {n : Nat} {lo : SMut} {s : World} {ops : Array Oper} {Q : Exit → Act → World → Prop} {E : SEnv} {L : SHeap} {dd : Nat} {ty : TypeId} {pos : String} {after : Array Edge} {rest : List Oper}
theorem s_markScene (i : Nat) (x : DScene) {v : Value} {k : Int} {H : SPiece} {args : List Operand} {ts : Array TypeId} (ha : svals E args = some [vScene x v, .int .i64 k]) (hv : OElems eSurf 62 v x.ss H) (hL : getL L i = some H) (hk : 0 ≤ k ∧ k ≤ 1000000000) (hl : x.ss.length ≤ 1048576 ∧ surfsLen x.ss ≤ 1048576) (hd : Nat.blt dd n = true)
    (c : ∀ H' F, WPL Try.prog n lo s ops Q rest ((dd, .int .i64 (k + 9 * x.ss.length + surfsLen x.ss)) :: E) (F :: setL L i H')) :
    WPL Try.prog n lo s ops Q (⟨some dd, .call { callee := .value (.func 63), args := args.toArray, argTypes := ts }, ty, pos, after, none⟩ :: rest) E L :=
  s_callG i (fun u H' F => u = .int .i64 (k + 9 * x.ss.length + surfsLen x.ss)) ha hL (fun w hw hh hn => c_markScene x v H k w hv hh hn hk hl) hd (fun v' H' F hu => by subst hu; exact c H' F)
end
end Go.Proofs.Ytfmjeakcfmmkfaa
/-
  Structs of numbers held against one another. Nothing of any one program.
-/
set_option linter.unusedVariables false
namespace Sx
open Go
/-- these fields are numbers, one after the other from this place on -/
def intFields (P : Program) : Nat → List Field → Bool
  | _, [] => true
  | o, f :: fs => (f.name != "_") && (f.offset == o) && (match P.underlying f.type with | some (.int _) => true | _ => false) && intFields P (o + 1) fs
def eqIntsB (P : Program) (t : TypeId) (k : Nat) : Bool :=
  (match P.underlying t with | some (.struct fs) => fs.size == k && intFields P 0 fs.toList | _ => false) && !P.stoodInHeld t && !P.eqGuardType P.depth t
class SEqI (P : Program) (t : TypeId) (k : Nat) : Prop where
  h : eqIntsB P t k = true
theorem part_int {P : Program} {t : TypeId} {kk : IntKind} (h : P.underlying t = some (.int kk)) {l : List Value} {o : Nat} {v : Value} (hv : l[o]? = some v) (w : World) : (part t l.toArray o).run P w = .ok v w := by
  simp [part, isAgg, run_underlying h, hv]
theorem eqFields_ints {P : Program} (d : Nat) (w : World) : ∀ (fs : List Field) (o : Nat) (p q a c : List Int), p.length = o → q.length = o → fs.length = a.length → a.length = c.length → intFields P o fs = true →
    (Op.eqFields (d + 1) (ivals (p ++ a)).toArray (ivals (q ++ c)).toArray fs).run P w = .ok (decide (a = c)) w
  | [], o, p, q, a, c, _, _, hl, hl2, _ => by
    have h1 : a = [] := List.eq_nil_of_length_eq_zero hl.symm
    subst h1
    have h2 : c = [] := List.eq_nil_of_length_eq_zero hl2.symm
    subst h2
    simp [Op.eqFields]
  | f :: fs, o, p, q, [], c, _, _, hl, _, _ => by simp at hl
  | f :: fs, o, p, q, x :: a, [], _, _, _, hl2, _ => by simp at hl2
  | f :: fs, o, p, q, x :: a, y :: c, hp, hq, hl, hl2, hf => by
    simp only [intFields, Bool.and_eq_true, bne_iff_ne, beq_iff_eq] at hf
    obtain ⟨⟨⟨h1, h2⟩, h3⟩, h4⟩ := hf
    obtain ⟨kk, hk⟩ : ∃ kk, P.underlying f.type = some (.int kk) := by
      cases hu : P.underlying f.type with
      | none => simp [hu] at h3
      | some td => cases td <;> simp [hu] at h3; exact ⟨_, rfl⟩
    have g1 : (ivals (p ++ x :: a))[f.offset]? = some (.int .i64 x) := by rw [h2, ← hp]; simp [ivals]
    have g2 : (ivals (q ++ y :: c))[f.offset]? = some (.int .i64 y) := by rw [h2, ← hq]; simp [ivals]
    have ih := eqFields_ints d w fs (o + 1) (p ++ [x]) (q ++ [y]) a c (by simp [hp]) (by simp [hq]) (by simpa using hl) (by simpa using hl2) h4
    rw [List.append_assoc, List.append_assoc] at ih
    simp only [List.singleton_append] at ih
    unfold Op.eqFields
    rw [if_pos h1]
    simp only [Sem.run_bind, part_int hk g1, part_int hk g2, Result.andThen_ok, run_equalIn_int w d f.type .i64 kk x y hk]
    by_cases e : x = y
    · subst e
      simp only [beq_self_eq_true, Bool.not_true, Bool.false_eq_true, if_false, ih, List.cons.injEq, true_and]
    · simp [e]
section
variable {P : Program} {n : Nat} {lo : SMut} {s : World} {E : SEnv} {L : SHeap} {d : Option Tmp} {ty : TypeId} {pos : String} {after : Array Edge} {g : Option (Nat × Bool)} {x y : Operand} {xt yt : TypeId}
theorem equal_ints {P : Program} {t : TypeId} {k : Nat} [hk : SEqI P t k] (d : Nat) {a c : List Int} (ha : a.length = k) (hc : c.length = k) (w : World) : (Op.equalIn (d + 2) t (.agg (ivals a).toArray) (.agg (ivals c).toArray)).run P w = .ok (decide (a = c)) w := by
  have h := hk.h
  unfold eqIntsB at h
  simp only [Bool.and_eq_true, Bool.not_eq_true'] at h
  obtain ⟨⟨h1, h2⟩, h3⟩ := h
  have h4 : P.underlying t = some (.struct (P.fieldsOf t)) ∧ (P.fieldsOf t).size = k ∧ intFields P 0 (P.fieldsOf t).toList = true := by
    unfold Program.fieldsOf
    cases hu : P.underlying t with
    | none => simp [hu] at h1
    | some td => cases td <;> simp [hu] at h1 ⊢; exact h1
  rw [run_equalIn_struct w (d + 1) t _ _ h4.1 h2]
  exact eqFields_ints d w _ 0 [] [] a c rfl rfl (by rw [Array.length_toList, h4.2.1, ha]) (by rw [ha, hc]) h4.2.2
theorem ov_eqlI {k : Nat} [hk : SEqI P xt k] {a c : List Int} (hx : sval E x = some (.agg (ivals a).toArray)) (hy : sval E y = some (.agg (ivals c).toArray)) (ha : a.length = k) (hc : c.length = k) : SOpV P n lo s E L ⟨d, .binOp .eql xt x y yt, ty, pos, after, g⟩ (.bool (decide (a = c))) :=
  SOpV.of_run fun q hq w hw => by
    have h := hk.h
    unfold eqIntsB at h
    simp only [Bool.and_eq_true, Bool.not_eq_true'] at h
    simp only [execOp, hq.sval hx, hq.sval hy, Sem.run_bind, run_eqGuard_agg w .eql xt x y _ _ h.2, Result.andThen_ok, run_eql_struct, equal_ints 9998 ha hc w]
    rfl
theorem ov_neqI {k : Nat} [hk : SEqI P xt k] {a c : List Int} (hx : sval E x = some (.agg (ivals a).toArray)) (hy : sval E y = some (.agg (ivals c).toArray)) (ha : a.length = k) (hc : c.length = k) : SOpV P n lo s E L ⟨d, .binOp .neq xt x y yt, ty, pos, after, g⟩ (.bool (!decide (a = c))) :=
  SOpV.of_run fun q hq w hw => by
    have h := hk.h
    unfold eqIntsB at h
    simp only [Bool.and_eq_true, Bool.not_eq_true'] at h
    simp only [execOp, hq.sval hx, hq.sval hy, Sem.run_bind, run_eqGuard_agg w .neq xt x y _ _ h.2, Result.andThen_ok, run_neq_struct, equal_ints 9998 ha hc w]
    rfl
end
end Sx
namespace Go.Proofs.Ytfmjeakcfmmkfaa
open Go Sx
instance : SEqI Try.prog 73 4 := ⟨by kernel_rfl⟩
def rectL (r : DRect) : List Int := [r.X, r.Y, r.W, r.H]
theorem rectL_inj {r q : DRect} : rectL r = rectL q ↔ r = q := by
  constructor
  · intro h; cases r; cases q; simp [rectL] at h; simp [h]
  · intro h; rw [h]
theorem rectL_dec (r q : DRect) : decide (rectL r = rectL q) = decide (r = q) := decide_eq_decide.2 rectL_inj
section
variable {n : Nat} {lo : SMut} {s : World} {E : SEnv} {L : SHeap} {d : Option Tmp} {ty : TypeId} {pos : String} {after : Array Edge} {g : Option (Nat × Bool)} {x y : Operand} {yt : TypeId}
theorem ov_eqRect {r q : DRect} (hx : sval E x = some (vRect r)) (hy : sval E y = some (vRect q)) : SOpV Try.prog n lo s E L ⟨d, .binOp .eql 73 x y yt, ty, pos, after, g⟩ (.bool (decide (r = q))) := by
  rw [← rectL_dec]; exact ov_eqlI (k := 4) (a := rectL r) (c := rectL q) hx hy rfl rfl
theorem ov_neRect {r q : DRect} (hx : sval E x = some (vRect r)) (hy : sval E y = some (vRect q)) : SOpV Try.prog n lo s E L ⟨d, .binOp .neq 73 x y yt, ty, pos, after, g⟩ (.bool (!decide (r = q))) := by
  rw [← rectL_dec]; exact ov_neqI (k := 4) (a := rectL r) (c := rectL q) hx hy rfl rfl
end
end Go.Proofs.Ytfmjeakcfmmkfaa
/-
  Contracts: faded pixels; places in oriented and in scaled pictures.
-/
set_option linter.unusedVariables false
namespace Go.Proofs.Ytfmjeakcfmmkfaa
open Go Sx
attribute [local irreducible] Exit.then Exit.inBlock bodyPost
theorem c_ipart (a c : Int) (w : World) : SYields Try.prog 235 #[.int .i64 a, .int .i64 c] (.int .i64 (prt a c)) w := by
  have hm := fun (h1 : 0 ≤ a ∧ a ≤ 255) (h2 : 0 ≤ c ∧ c ≤ 255) => mul_bd h1 h2
  (first | apply SYields.mk | apply SYieldsF.mk | skip); refine s_enter Try.func235 rfl Try.ntmps235 rfl ?_
  repeat' (first | exact rfl | (apply kO; (first | exact ov_pure rfl | (apply kOBin; (first | exact aBin | exact (ov_mul rfl rfl (by have := hm (by omega) (by omega); omega)) | exact (ov_add rfl rfl (by have := hm (by omega) (by omega); omega)) | exact (ov_quo rfl rfl (by have := hm (by omega) (by omega); omega)))) | (apply kOCall; (first | (apply kCallF; (first | exact (ov_call rfl (fun w hw => c_within _ _ _ w)))) | (apply kCallB; (first | exact aBlt | exact aLenR)))) | (apply kOLoad; (first | exact aLdF | exact aLdR)) | exact ov_fieldAddr rfl | (apply kOIdx; (first | exact aIdx)) | exact aRest | exact aNew | exact (ov_field1 (ft := 37) rfl rfl rfl rfl))) | (refine kN ?_; (first | (refine kStore ?_; (first | refine s_store1 _ rfl rfl gpA rfl (by rfl) ?_ | refine s_storeS _ rfl rfl gpA rfl rfl (by rfl) ?_ | refine s_storeS _ rfl rfl gpA rfl (ones_img oiA) (by rfl) ?_)) | refine s_boxS rfl rfl (fun b hb => ?_) | refine s_allocS rfl (fun b hb => ?_) | refine s_box1 rfl rfl rfl (fun b hb => ?_) | refine s_alloc1 rfl rfl (fun b hb => ?_) | refine s_buildSlice0 rfl (fun b hb => ?_) | refine s_buildSlice rfl rfl rfl rfl rfl (fun b hb => ?_) | apply s_step)) | (refine kG ?_; (first | refine s_gyes rfl rfl rfl ?_ | refine s_gno rfl rfl rfl rfl rfl ?_ | ((first | refine s_split_d rfl rfl (fun h => ?_) (fun h => ?_) | refine s_split_n rfl rfl (fun h => ?_) (fun h => ?_)) <;> (try (first | contradiction | (exfalso; omega)))) | refine s_split_nb rfl rfl (fun h => ?_) (fun h => ?_) | refine s_split rfl rfl (fun h => ?_) (fun h => ?_))) | refine l_then ?_ | (refine kC ?_; (first | refine c_seq ?_ | refine c_regionN rfl ?_ | refine c_ret ?_ | (refine kCond ?_; (first | refine c_cond_t rfl ?_ | refine c_cond_f rfl ?_ | ((first | refine c_cond_d rfl (fun h => ?_) (fun h => ?_) | refine c_cond_n rfl (fun h => ?_) (fun h => ?_)) <;> (try (first | contradiction | (exfalso; omega)))) | refine c_cond_nb rfl (fun h => ?_) (fun h => ?_) | refine c_cond rfl (fun h => ?_) (fun h => ?_))) | refine c_block ?_ | refine c_skip ?_ | refine c_exit ?_ | refine c_regionQN rfl rfl (by decide +kernel) ?_)) | apply s_stepQ | (refine kQG ?_; (first | refine s_gyesQ rfl rfl rfl ?_ | refine s_gnoQ rfl rfl rfl rfl rfl ?_ | ((first | refine s_splitQ_d rfl rfl (fun h => ?_) (fun h => ?_) | refine s_splitQ_n rfl rfl (fun h => ?_) (fun h => ?_)) <;> (try (first | contradiction | (exfalso; omega)))) | refine s_splitQ_nb rfl rfl (fun h => ?_) (fun h => ?_) | refine s_splitQ rfl rfl (fun h => ?_) (fun h => ?_))) | refine lQ_then ?_ | refine lQ_ends ?_ | (refine kE ?_; (first | refine e_then_r ?_ | refine e_block_r ?_ | refine e_then_n ?_ | refine e_then_x ?_ | refine e_block_n ?_ | refine e_block_x ?_ | refine e_block_y rfl ?_)) | refine l_ends ?_)
  all_goals refine s_leave1 rfl rfl (fun w hw => ⟨?_, hw.below⟩)
  all_goals (refine ret_int ?_; unfold prt byteP; first | (rw [if_neg (by omega)]; done) | rw [if_pos ⟨by omega, by omega⟩])
theorem c_ifade (p a : Int) (w : World) : SYields Try.prog 230 #[.int .i64 p, .int .i64 a] (.int .i64 (fade p a)) w := by
  have hp := fun (h : byteP a) => prt_bd (chan_bd p 0) h
  (first | apply SYields.mk | apply SYieldsF.mk | skip); refine s_enter Try.func230 rfl Try.ntmps230 rfl ?_
  repeat' (first | exact rfl | (apply kO; (first | exact ov_pure rfl | (apply kOBin; (first | exact aBin | exact (ov_shlN 24 16777216 (by decide) (by decide) rfl rfl (by have := hp (by unfold byteP; omega); omega)) | exact (ov_orS 24 (p := 16777216) (by decide) rfl rfl (by have := hp (by unfold byteP; omega); omega) (by omega)) | exact (ov_add rfl rfl (by have := hp (by unfold byteP; omega); omega)))) | (apply kOCall; (first | (apply kCallF; (first | exact (ov_call rfl (fun w hw => c_within _ _ _ w)) | exact (ov_call rfl (fun w hw => c_isPixel _ w)) | exact (ov_call rfl (fun w hw => c_channel _ _ w (by omega))) | exact (ov_call rfl (fun w hw => c_ipart _ _ w)))) | (apply kCallB; (first | exact aBlt | exact aLenR)))) | (apply kOLoad; (first | exact aLdF | exact aLdR)) | exact ov_fieldAddr rfl | (apply kOIdx; (first | exact aIdx)) | exact aRest | exact aNew | exact (ov_field1 (ft := 37) rfl rfl rfl rfl))) | (refine kN ?_; (first | (refine kStore ?_; (first | refine s_store1 _ rfl rfl gpA rfl (by rfl) ?_ | refine s_storeS _ rfl rfl gpA rfl rfl (by rfl) ?_ | refine s_storeS _ rfl rfl gpA rfl (ones_img oiA) (by rfl) ?_)) | refine s_boxS rfl rfl (fun b hb => ?_) | refine s_allocS rfl (fun b hb => ?_) | refine s_box1 rfl rfl rfl (fun b hb => ?_) | refine s_alloc1 rfl rfl (fun b hb => ?_) | refine s_buildSlice0 rfl (fun b hb => ?_) | refine s_buildSlice rfl rfl rfl rfl rfl (fun b hb => ?_) | apply s_step)) | (refine kG ?_; (first | refine s_gyes rfl rfl rfl ?_ | refine s_gno rfl rfl rfl rfl rfl ?_ | ((first | refine s_split_d rfl rfl (fun h => ?_) (fun h => ?_) | refine s_split_n rfl rfl (fun h => ?_) (fun h => ?_)) <;> (try (first | contradiction | (exfalso; omega)))) | refine s_split_nb rfl rfl (fun h => ?_) (fun h => ?_) | refine s_split rfl rfl (fun h => ?_) (fun h => ?_))) | refine l_then ?_ | (refine kC ?_; (first | refine c_seq ?_ | refine c_regionN rfl ?_ | refine c_ret ?_ | (refine kCond ?_; (first | refine c_cond_t rfl ?_ | refine c_cond_f rfl ?_ | ((first | refine c_cond_d rfl (fun h => ?_) (fun h => ?_) | refine c_cond_n rfl (fun h => ?_) (fun h => ?_)) <;> (try (first | contradiction | (exfalso; omega)))) | refine c_cond_nb rfl (fun h => ?_) (fun h => ?_) | refine c_cond rfl (fun h => ?_) (fun h => ?_))) | refine c_block ?_ | refine c_skip ?_ | refine c_exit ?_ | refine c_regionQN rfl rfl (by decide +kernel) ?_)) | apply s_stepQ | (refine kQG ?_; (first | refine s_gyesQ rfl rfl rfl ?_ | refine s_gnoQ rfl rfl rfl rfl rfl ?_ | ((first | refine s_splitQ_d rfl rfl (fun h => ?_) (fun h => ?_) | refine s_splitQ_n rfl rfl (fun h => ?_) (fun h => ?_)) <;> (try (first | contradiction | (exfalso; omega)))) | refine s_splitQ_nb rfl rfl (fun h => ?_) (fun h => ?_) | refine s_splitQ rfl rfl (fun h => ?_) (fun h => ?_))) | refine lQ_then ?_ | refine lQ_ends ?_ | (refine kE ?_; (first | refine e_then_r ?_ | refine e_block_r ?_ | refine e_then_n ?_ | refine e_then_x ?_ | refine e_block_n ?_ | refine e_block_x ?_ | refine e_block_y rfl ?_)) | refine l_ends ?_)
  all_goals refine s_leave1 rfl rfl (fun w hw => ⟨?_, hw.below⟩)
  all_goals (refine ret_int ?_; unfold fade; first | (rw [if_neg (by simp only [pixP, byteP]; omega)]; done) | (rw [if_pos ⟨by unfold pixP; omega, by unfold byteP; omega⟩]; done) | (rw [if_pos ⟨by unfold pixP; omega, by unfold byteP; omega⟩]; omega))
theorem c_iscalePoint (f t k : Int) (w : World) : SYields Try.prog 229 #[.int .i64 f, .int .i64 t, .int .i64 k] (.int .i64 (scalePoint f t k)) w := by
  have hm := fun (h1 : 0 ≤ k ∧ k ≤ 15) (h2 : 0 ≤ f ∧ f ≤ 16) => mul_bd h1 h2
  (first | apply SYields.mk | apply SYieldsF.mk | skip); refine s_enter Try.func229 rfl Try.ntmps229 rfl ?_
  repeat' (first | exact rfl | (apply kO; (first | exact ov_pure rfl | (apply kOBin; (first | exact aBin | exact (ov_mul rfl rfl (by have := hm (by omega) (by omega); omega)) | exact (ov_quo rfl rfl (by have := hm (by omega) (by omega); omega)))) | (apply kOCall; (first | (apply kCallF; (first | exact (ov_call rfl (fun w hw => c_within _ _ _ w)) | exact (ov_call rfl (fun w hw => c_isSide _ w)))) | (apply kCallB; (first | exact aBlt | exact aLenR)))) | (apply kOLoad; (first | exact aLdF | exact aLdR)) | exact ov_fieldAddr rfl | (apply kOIdx; (first | exact aIdx)) | exact aRest | exact aNew | exact (ov_field1 (ft := 37) rfl rfl rfl rfl))) | (refine kN ?_; (first | (refine kStore ?_; (first | refine s_store1 _ rfl rfl gpA rfl (by rfl) ?_ | refine s_storeS _ rfl rfl gpA rfl rfl (by rfl) ?_ | refine s_storeS _ rfl rfl gpA rfl (ones_img oiA) (by rfl) ?_)) | refine s_boxS rfl rfl (fun b hb => ?_) | refine s_allocS rfl (fun b hb => ?_) | refine s_box1 rfl rfl rfl (fun b hb => ?_) | refine s_alloc1 rfl rfl (fun b hb => ?_) | refine s_buildSlice0 rfl (fun b hb => ?_) | refine s_buildSlice rfl rfl rfl rfl rfl (fun b hb => ?_) | apply s_step)) | (refine kG ?_; (first | refine s_gyes rfl rfl rfl ?_ | refine s_gno rfl rfl rfl rfl rfl ?_ | ((first | refine s_split_d rfl rfl (fun h => ?_) (fun h => ?_) | refine s_split_n rfl rfl (fun h => ?_) (fun h => ?_)) <;> (try (first | contradiction | (exfalso; omega)))) | refine s_split_nb rfl rfl (fun h => ?_) (fun h => ?_) | refine s_split rfl rfl (fun h => ?_) (fun h => ?_))) | refine l_then ?_ | (refine kC ?_; (first | refine c_seq ?_ | refine c_regionN rfl ?_ | refine c_ret ?_ | (refine kCond ?_; (first | refine c_cond_t rfl ?_ | refine c_cond_f rfl ?_ | ((first | refine c_cond_d rfl (fun h => ?_) (fun h => ?_) | refine c_cond_n rfl (fun h => ?_) (fun h => ?_)) <;> (try (first | contradiction | (exfalso; omega)))) | refine c_cond_nb rfl (fun h => ?_) (fun h => ?_) | refine c_cond rfl (fun h => ?_) (fun h => ?_))) | refine c_block ?_ | refine c_skip ?_ | refine c_exit ?_ | refine c_regionQN rfl rfl (by decide +kernel) ?_)) | apply s_stepQ | (refine kQG ?_; (first | refine s_gyesQ rfl rfl rfl ?_ | refine s_gnoQ rfl rfl rfl rfl rfl ?_ | ((first | refine s_splitQ_d rfl rfl (fun h => ?_) (fun h => ?_) | refine s_splitQ_n rfl rfl (fun h => ?_) (fun h => ?_)) <;> (try (first | contradiction | (exfalso; omega)))) | refine s_splitQ_nb rfl rfl (fun h => ?_) (fun h => ?_) | refine s_splitQ rfl rfl (fun h => ?_) (fun h => ?_))) | refine lQ_then ?_ | refine lQ_ends ?_ | (refine kE ?_; (first | refine e_then_r ?_ | refine e_block_r ?_ | refine e_then_n ?_ | refine e_then_x ?_ | refine e_block_n ?_ | refine e_block_x ?_ | refine e_block_y rfl ?_)) | refine l_ends ?_)
  all_goals refine s_leave1 rfl rfl (fun w hw => ⟨?_, hw.below⟩)
  all_goals (refine ret_int ?_; unfold scalePoint; first | (rw [if_neg (by omega)]; done) | rw [if_pos (by omega)])
theorem c_spart (a c : Int) (w : World) : SYields Try.prog 134 #[.int .i64 a, .int .i64 c] (.int .i64 (prt a c)) w := by
  have hm := fun (h1 : 0 ≤ a ∧ a ≤ 255) (h2 : 0 ≤ c ∧ c ≤ 255) => mul_bd h1 h2
  (first | apply SYields.mk | apply SYieldsF.mk | skip); refine s_enter Try.func134 rfl Try.ntmps134 rfl ?_
  repeat' (first | exact rfl | (apply kO; (first | exact ov_pure rfl | (apply kOBin; (first | exact aBin | exact (ov_mul rfl rfl (by have := hm (by omega) (by omega); omega)) | exact (ov_add rfl rfl (by have := hm (by omega) (by omega); omega)) | exact (ov_quo rfl rfl (by have := hm (by omega) (by omega); omega)))) | (apply kOCall; (first | (apply kCallF; (first | exact (ov_call rfl (fun w hw => c_l01In _ _ _ w)))) | (apply kCallB; (first | exact aBlt | exact aLenR)))) | (apply kOLoad; (first | exact aLdF | exact aLdR)) | exact ov_fieldAddr rfl | (apply kOIdx; (first | exact aIdx)) | exact aRest | exact aNew | exact (ov_field1 (ft := 37) rfl rfl rfl rfl))) | (refine kN ?_; (first | (refine kStore ?_; (first | refine s_store1 _ rfl rfl gpA rfl (by rfl) ?_ | refine s_storeS _ rfl rfl gpA rfl rfl (by rfl) ?_ | refine s_storeS _ rfl rfl gpA rfl (ones_img oiA) (by rfl) ?_)) | refine s_boxS rfl rfl (fun b hb => ?_) | refine s_allocS rfl (fun b hb => ?_) | refine s_box1 rfl rfl rfl (fun b hb => ?_) | refine s_alloc1 rfl rfl (fun b hb => ?_) | refine s_buildSlice0 rfl (fun b hb => ?_) | refine s_buildSlice rfl rfl rfl rfl rfl (fun b hb => ?_) | apply s_step)) | (refine kG ?_; (first | refine s_gyes rfl rfl rfl ?_ | refine s_gno rfl rfl rfl rfl rfl ?_ | ((first | refine s_split_d rfl rfl (fun h => ?_) (fun h => ?_) | refine s_split_n rfl rfl (fun h => ?_) (fun h => ?_)) <;> (try (first | contradiction | (exfalso; omega)))) | refine s_split_nb rfl rfl (fun h => ?_) (fun h => ?_) | refine s_split rfl rfl (fun h => ?_) (fun h => ?_))) | refine l_then ?_ | (refine kC ?_; (first | refine c_seq ?_ | refine c_regionN rfl ?_ | refine c_ret ?_ | (refine kCond ?_; (first | refine c_cond_t rfl ?_ | refine c_cond_f rfl ?_ | ((first | refine c_cond_d rfl (fun h => ?_) (fun h => ?_) | refine c_cond_n rfl (fun h => ?_) (fun h => ?_)) <;> (try (first | contradiction | (exfalso; omega)))) | refine c_cond_nb rfl (fun h => ?_) (fun h => ?_) | refine c_cond rfl (fun h => ?_) (fun h => ?_))) | refine c_block ?_ | refine c_skip ?_ | refine c_exit ?_ | refine c_regionQN rfl rfl (by decide +kernel) ?_)) | apply s_stepQ | (refine kQG ?_; (first | refine s_gyesQ rfl rfl rfl ?_ | refine s_gnoQ rfl rfl rfl rfl rfl ?_ | ((first | refine s_splitQ_d rfl rfl (fun h => ?_) (fun h => ?_) | refine s_splitQ_n rfl rfl (fun h => ?_) (fun h => ?_)) <;> (try (first | contradiction | (exfalso; omega)))) | refine s_splitQ_nb rfl rfl (fun h => ?_) (fun h => ?_) | refine s_splitQ rfl rfl (fun h => ?_) (fun h => ?_))) | refine lQ_then ?_ | refine lQ_ends ?_ | (refine kE ?_; (first | refine e_then_r ?_ | refine e_block_r ?_ | refine e_then_n ?_ | refine e_then_x ?_ | refine e_block_n ?_ | refine e_block_x ?_ | refine e_block_y rfl ?_)) | refine l_ends ?_)
  all_goals refine s_leave1 rfl rfl (fun w hw => ⟨?_, hw.below⟩)
  all_goals (refine ret_int ?_; unfold prt byteP; first | (rw [if_neg (by omega)]; done) | rw [if_pos ⟨by omega, by omega⟩])
theorem c_sfade (p a : Int) (w : World) : SYields Try.prog 219 #[.int .i64 p, .int .i64 a] (.int .i64 (fade p a)) w := by
  have hp := fun (h : byteP a) => prt_bd (chan_bd p 0) h
  (first | apply SYields.mk | apply SYieldsF.mk | skip); refine s_enter Try.func219 rfl Try.ntmps219 rfl ?_
  repeat' (first | exact rfl | (apply kO; (first | exact ov_pure rfl | (apply kOBin; (first | exact aBin | exact (ov_shlN 24 16777216 (by decide) (by decide) rfl rfl (by have := hp (by unfold byteP; omega); omega)) | exact (ov_orS 24 (p := 16777216) (by decide) rfl rfl (by have := hp (by unfold byteP; omega); omega) (by omega)) | exact (ov_add rfl rfl (by have := hp (by unfold byteP; omega); omega)))) | (apply kOCall; (first | (apply kCallF; (first | exact (ov_call rfl (fun w hw => c_l01In _ _ _ w)) | exact (ov_call rfl (fun w hw => c_l04Pixel _ w)) | exact (ov_call rfl (fun w hw => c_schannelIn _ _ w (by omega) (by omega))) | exact (ov_call rfl (fun w hw => c_spart _ _ w)))) | (apply kCallB; (first | exact aBlt | exact aLenR)))) | (apply kOLoad; (first | exact aLdF | exact aLdR)) | exact ov_fieldAddr rfl | (apply kOIdx; (first | exact aIdx)) | exact aRest | exact aNew | exact (ov_field1 (ft := 37) rfl rfl rfl rfl))) | (refine kN ?_; (first | (refine kStore ?_; (first | refine s_store1 _ rfl rfl gpA rfl (by rfl) ?_ | refine s_storeS _ rfl rfl gpA rfl rfl (by rfl) ?_ | refine s_storeS _ rfl rfl gpA rfl (ones_img oiA) (by rfl) ?_)) | refine s_boxS rfl rfl (fun b hb => ?_) | refine s_allocS rfl (fun b hb => ?_) | refine s_box1 rfl rfl rfl (fun b hb => ?_) | refine s_alloc1 rfl rfl (fun b hb => ?_) | refine s_buildSlice0 rfl (fun b hb => ?_) | refine s_buildSlice rfl rfl rfl rfl rfl (fun b hb => ?_) | apply s_step)) | (refine kG ?_; (first | refine s_gyes rfl rfl rfl ?_ | refine s_gno rfl rfl rfl rfl rfl ?_ | ((first | refine s_split_d rfl rfl (fun h => ?_) (fun h => ?_) | refine s_split_n rfl rfl (fun h => ?_) (fun h => ?_)) <;> (try (first | contradiction | (exfalso; omega)))) | refine s_split_nb rfl rfl (fun h => ?_) (fun h => ?_) | refine s_split rfl rfl (fun h => ?_) (fun h => ?_))) | refine l_then ?_ | (refine kC ?_; (first | refine c_seq ?_ | refine c_regionN rfl ?_ | refine c_ret ?_ | (refine kCond ?_; (first | refine c_cond_t rfl ?_ | refine c_cond_f rfl ?_ | ((first | refine c_cond_d rfl (fun h => ?_) (fun h => ?_) | refine c_cond_n rfl (fun h => ?_) (fun h => ?_)) <;> (try (first | contradiction | (exfalso; omega)))) | refine c_cond_nb rfl (fun h => ?_) (fun h => ?_) | refine c_cond rfl (fun h => ?_) (fun h => ?_))) | refine c_block ?_ | refine c_skip ?_ | refine c_exit ?_ | refine c_regionQN rfl rfl (by decide +kernel) ?_)) | apply s_stepQ | (refine kQG ?_; (first | refine s_gyesQ rfl rfl rfl ?_ | refine s_gnoQ rfl rfl rfl rfl rfl ?_ | ((first | refine s_splitQ_d rfl rfl (fun h => ?_) (fun h => ?_) | refine s_splitQ_n rfl rfl (fun h => ?_) (fun h => ?_)) <;> (try (first | contradiction | (exfalso; omega)))) | refine s_splitQ_nb rfl rfl (fun h => ?_) (fun h => ?_) | refine s_splitQ rfl rfl (fun h => ?_) (fun h => ?_))) | refine lQ_then ?_ | refine lQ_ends ?_ | (refine kE ?_; (first | refine e_then_r ?_ | refine e_block_r ?_ | refine e_then_n ?_ | refine e_then_x ?_ | refine e_block_n ?_ | refine e_block_x ?_ | refine e_block_y rfl ?_)) | refine l_ends ?_)
  all_goals refine s_leave1 rfl rfl (fun w hw => ⟨?_, hw.below⟩)
  all_goals (refine ret_int ?_; unfold fade; first | (rw [if_neg (by simp only [pixP, byteP]; omega)]; done) | (rw [if_pos ⟨by unfold pixP; omega, by unfold byteP; omega⟩]; done) | (rw [if_pos ⟨by unfold pixP; omega, by unfold byteP; omega⟩]; omega))
theorem c_sscalePoint (f t k : Int) (w : World) : SYields Try.prog 237 #[.int .i64 f, .int .i64 t, .int .i64 k] (.int .i64 (scalePoint f t k)) w := by
  have hm := fun (h1 : 0 ≤ k ∧ k ≤ 15) (h2 : 0 ≤ f ∧ f ≤ 16) => mul_bd h1 h2
  (first | apply SYields.mk | apply SYieldsF.mk | skip); refine s_enter Try.func237 rfl Try.ntmps237 rfl ?_
  repeat' (first | exact rfl | (apply kO; (first | exact ov_pure rfl | (apply kOBin; (first | exact aBin | exact (ov_mul rfl rfl (by have := hm (by omega) (by omega); omega)) | exact (ov_quo rfl rfl (by have := hm (by omega) (by omega); omega)))) | (apply kOCall; (first | (apply kCallF; (first | exact (ov_call rfl (fun w hw => c_l01In _ _ _ w)))) | (apply kCallB; (first | exact aBlt | exact aLenR)))) | (apply kOLoad; (first | exact aLdF | exact aLdR)) | exact ov_fieldAddr rfl | (apply kOIdx; (first | exact aIdx)) | exact aRest | exact aNew | exact (ov_field1 (ft := 37) rfl rfl rfl rfl))) | (refine kN ?_; (first | (refine kStore ?_; (first | refine s_store1 _ rfl rfl gpA rfl (by rfl) ?_ | refine s_storeS _ rfl rfl gpA rfl rfl (by rfl) ?_ | refine s_storeS _ rfl rfl gpA rfl (ones_img oiA) (by rfl) ?_)) | refine s_boxS rfl rfl (fun b hb => ?_) | refine s_allocS rfl (fun b hb => ?_) | refine s_box1 rfl rfl rfl (fun b hb => ?_) | refine s_alloc1 rfl rfl (fun b hb => ?_) | refine s_buildSlice0 rfl (fun b hb => ?_) | refine s_buildSlice rfl rfl rfl rfl rfl (fun b hb => ?_) | apply s_step)) | (refine kG ?_; (first | refine s_gyes rfl rfl rfl ?_ | refine s_gno rfl rfl rfl rfl rfl ?_ | ((first | refine s_split_d rfl rfl (fun h => ?_) (fun h => ?_) | refine s_split_n rfl rfl (fun h => ?_) (fun h => ?_)) <;> (try (first | contradiction | (exfalso; omega)))) | refine s_split_nb rfl rfl (fun h => ?_) (fun h => ?_) | refine s_split rfl rfl (fun h => ?_) (fun h => ?_))) | refine l_then ?_ | (refine kC ?_; (first | refine c_seq ?_ | refine c_regionN rfl ?_ | refine c_ret ?_ | (refine kCond ?_; (first | refine c_cond_t rfl ?_ | refine c_cond_f rfl ?_ | ((first | refine c_cond_d rfl (fun h => ?_) (fun h => ?_) | refine c_cond_n rfl (fun h => ?_) (fun h => ?_)) <;> (try (first | contradiction | (exfalso; omega)))) | refine c_cond_nb rfl (fun h => ?_) (fun h => ?_) | refine c_cond rfl (fun h => ?_) (fun h => ?_))) | refine c_block ?_ | refine c_skip ?_ | refine c_exit ?_ | refine c_regionQN rfl rfl (by decide +kernel) ?_)) | apply s_stepQ | (refine kQG ?_; (first | refine s_gyesQ rfl rfl rfl ?_ | refine s_gnoQ rfl rfl rfl rfl rfl ?_ | ((first | refine s_splitQ_d rfl rfl (fun h => ?_) (fun h => ?_) | refine s_splitQ_n rfl rfl (fun h => ?_) (fun h => ?_)) <;> (try (first | contradiction | (exfalso; omega)))) | refine s_splitQ_nb rfl rfl (fun h => ?_) (fun h => ?_) | refine s_splitQ rfl rfl (fun h => ?_) (fun h => ?_))) | refine lQ_then ?_ | refine lQ_ends ?_ | (refine kE ?_; (first | refine e_then_r ?_ | refine e_block_r ?_ | refine e_then_n ?_ | refine e_then_x ?_ | refine e_block_n ?_ | refine e_block_x ?_ | refine e_block_y rfl ?_)) | refine l_ends ?_)
  all_goals refine s_leave1 rfl rfl (fun w hw => ⟨?_, hw.below⟩)
  all_goals (refine ret_int ?_; unfold scalePoint; first | (rw [if_neg (by omega)]; done) | rw [if_pos (by omega)])
theorem c_iorientPoint (wd ht o x y : Int) (W : World) : SYields Try.prog 226 #[.int .i64 wd, .int .i64 ht, .int .i64 o, .int .i64 x, .int .i64 y] (.tuple #[.int .i64 (orientPoint wd ht o x y).1, .int .i64 (orientPoint wd ht o x y).2]) W := by
  by_cases hok : orientOk wd ht o ∧ (0 ≤ x ∧ x ≤ wd - 1) ∧ (0 ≤ y ∧ y ≤ ht - 1)
  · have hok' := hok
    unfold orientOk at hok'
    obtain ⟨⟨hw0, hh0, ho0⟩, hx0, hy0⟩ := hok'
    have b1 := fun k => o_bd hw0 hh0 hx0 hy0 k
    have b2 := fun k => o_bd (x := wd - 1 - x) hw0 hh0 (by omega) hy0 k
    have hm : (o % 4).toNat ≤ 3 := by omega
    (first | apply SYields.mk | apply SYieldsF.mk | skip); refine s_enter Try.func226 rfl Try.ntmps226 rfl ?_
    repeat' (first | exact rfl | (apply kO; (first | exact ov_pure rfl | (apply kOBin; (first | exact aBin | exact (ov_sub rfl rfl (by first | omega | (have := b1 k; have := b2 k; omega))))) | (apply kOCall; (first | (apply kCallF; (first | exact (ov_call rfl (fun w hw => c_isSide _ w)) | exact (ov_call rfl (fun w hw => c_isOrient _ w)) | exact (ov_call rfl (fun w hw => c_within _ _ _ w)))) | (apply kCallB; (first | exact aBlt | exact aLenR)))) | (apply kOLoad; (first | exact aLdF | exact aLdR)) | exact ov_fieldAddr rfl | (apply kOIdx; (first | exact aIdx)) | exact aRest | exact aNew | exact (ov_field1 (ft := 37) rfl rfl rfl rfl))) | (refine kN ?_; (first | (refine kStore ?_; (first | refine s_store1 _ rfl rfl gpA rfl (by rfl) ?_ | refine s_storeS _ rfl rfl gpA rfl rfl (by rfl) ?_ | refine s_storeS _ rfl rfl gpA rfl (ones_img oiA) (by rfl) ?_)) | refine s_boxS rfl rfl (fun b hb => ?_) | refine s_allocS rfl (fun b hb => ?_) | refine s_box1 rfl rfl rfl (fun b hb => ?_) | refine s_alloc1 rfl rfl (fun b hb => ?_) | refine s_buildSlice0 rfl (fun b hb => ?_) | refine s_buildSlice rfl rfl rfl rfl rfl (fun b hb => ?_) | apply s_step)) | (refine kG ?_; (first | refine s_gyes rfl rfl rfl ?_ | refine s_gno rfl rfl rfl rfl rfl ?_ | ((first | refine s_split_d rfl rfl (fun h => ?_) (fun h => ?_) | refine s_split_n rfl rfl (fun h => ?_) (fun h => ?_)) <;> (try (first | contradiction | (exfalso; omega)))) | refine s_split_nb rfl rfl (fun h => ?_) (fun h => ?_) | refine s_split rfl rfl (fun h => ?_) (fun h => ?_))) | refine l_then ?_ | (refine kC ?_; (first | (refine c_loopV (ι := Nat) (fun k => k ≤ (o % 4).toNat) (fun k => [(3, .int .i64 (oX wd ht (wd - 1 - x) y k)), (4, .int .i64 (oY wd ht (wd - 1 - x) y k)), (0, .int .i64 (oW wd ht k)), (1, .int .i64 (oW ht wd k)), (47, .int .i64 (k : Int))]) (fun _ => []) (fun k => (o % 4).toNat - k) 0 (by omega) rfl (fun _ => rfl) ⟨rfl, rfl, rfl, rfl, rfl, trivial⟩ (fun w hw => hw) (fun k hk => ?_)) | (refine c_loopV (ι := Nat) (fun k => k ≤ (o % 4).toNat) (fun k => [(3, .int .i64 (oX wd ht x y k)), (4, .int .i64 (oY wd ht x y k)), (0, .int .i64 (oW wd ht k)), (1, .int .i64 (oW ht wd k)), (47, .int .i64 (k : Int))]) (fun _ => []) (fun k => (o % 4).toNat - k) 0 (by omega) rfl (fun _ => rfl) ⟨rfl, rfl, rfl, rfl, rfl, trivial⟩ (fun w hw => hw) (fun k hk => ?_)) | refine c_seq ?_ | refine c_regionN rfl ?_ | refine c_ret ?_ | (refine kCond ?_; (first | refine c_cond_t rfl ?_ | refine c_cond_f rfl ?_ | ((first | refine c_cond_d rfl (fun h => ?_) (fun h => ?_) | refine c_cond_n rfl (fun h => ?_) (fun h => ?_)) <;> (try (first | contradiction | (exfalso; omega)))) | refine c_cond_nb rfl (fun h => ?_) (fun h => ?_) | refine c_cond rfl (fun h => ?_) (fun h => ?_))) | refine c_block ?_ | refine c_skip ?_ | refine c_exit ?_ | refine c_regionQN rfl rfl (by decide +kernel) ?_)) | apply s_stepQ | (refine kQG ?_; (first | refine s_gyesQ rfl rfl rfl ?_ | refine s_gnoQ rfl rfl rfl rfl rfl ?_ | ((first | refine s_splitQ_d rfl rfl (fun h => ?_) (fun h => ?_) | refine s_splitQ_n rfl rfl (fun h => ?_) (fun h => ?_)) <;> (try (first | contradiction | (exfalso; omega)))) | refine s_splitQ_nb rfl rfl (fun h => ?_) (fun h => ?_) | refine s_splitQ rfl rfl (fun h => ?_) (fun h => ?_))) | refine lQ_then ?_ | refine lQ_ends ?_ | (refine kE ?_; (first | refine e_then_r ?_ | refine e_block_r ?_ | refine e_then_n ?_ | refine e_then_x ?_ | refine e_block_n ?_ | refine e_block_x ?_ | refine e_block_y rfl ?_)) | refine l_ends ?_)
    all_goals first | exact e_round (k + 1) (by omega) ⟨slook_to rfl (vint_to (o_next _ _ _ _ k (by omega)).1.symm), slook_to rfl (vint_to (o_next _ _ _ _ k (by omega)).2.1.symm), slook_to rfl (vint_to (o_next wd ht (wd - 1 - x) y k (by omega)).2.2.1.symm), slook_to rfl (vint_to (o_next wd ht (wd - 1 - x) y k (by omega)).2.2.2.symm), rfl, (by repeat' first | exact trivial | refine ⟨rfl, ?_⟩)⟩ (fun w hw => hw) (by omega) | skip
    all_goals (have hk' : k = (o % 4).toNat := by omega)
    all_goals refine s_leave2 rfl rfl rfl (fun w hw => ⟨ret_pair ?_ ?_, hw.below⟩)
    all_goals (rw [hk', orientPoint, if_pos hok, orientPt_turns ho0]; first | rw [if_pos (by omega)] | rw [if_neg (by omega)])
  · have hok2 := hok
    unfold orientOk at hok2
    (first | apply SYields.mk | apply SYieldsF.mk | skip); refine s_enter Try.func226 rfl Try.ntmps226 rfl ?_
    repeat' (first | exact rfl | (apply kO; (first | exact ov_pure rfl | (apply kOBin; (first | exact aBin | exact (ov_sub rfl rfl (by omega)))) | (apply kOCall; (first | (apply kCallF; (first | exact (ov_call rfl (fun w hw => c_isSide _ w)) | exact (ov_call rfl (fun w hw => c_isOrient _ w)) | exact (ov_call rfl (fun w hw => c_within _ _ _ w)))) | (apply kCallB; (first | exact aBlt | exact aLenR)))) | (apply kOLoad; (first | exact aLdF | exact aLdR)) | exact ov_fieldAddr rfl | (apply kOIdx; (first | exact aIdx)) | exact aRest | exact aNew | exact (ov_field1 (ft := 37) rfl rfl rfl rfl))) | (refine kN ?_; (first | (refine kStore ?_; (first | refine s_store1 _ rfl rfl gpA rfl (by rfl) ?_ | refine s_storeS _ rfl rfl gpA rfl rfl (by rfl) ?_ | refine s_storeS _ rfl rfl gpA rfl (ones_img oiA) (by rfl) ?_)) | refine s_boxS rfl rfl (fun b hb => ?_) | refine s_allocS rfl (fun b hb => ?_) | refine s_box1 rfl rfl rfl (fun b hb => ?_) | refine s_alloc1 rfl rfl (fun b hb => ?_) | refine s_buildSlice0 rfl (fun b hb => ?_) | refine s_buildSlice rfl rfl rfl rfl rfl (fun b hb => ?_) | apply s_step)) | (refine kG ?_; (first | refine s_gyes rfl rfl rfl ?_ | refine s_gno rfl rfl rfl rfl rfl ?_ | ((first | refine s_split_d rfl rfl (fun h => ?_) (fun h => ?_) | refine s_split_n rfl rfl (fun h => ?_) (fun h => ?_)) <;> (try (first | contradiction | (exfalso; omega)))) | refine s_split_nb rfl rfl (fun h => ?_) (fun h => ?_) | refine s_split rfl rfl (fun h => ?_) (fun h => ?_))) | refine l_then ?_ | (refine kC ?_; (first | refine c_seq ?_ | refine c_regionN rfl ?_ | refine c_ret ?_ | (refine kCond ?_; (first | refine c_cond_t rfl ?_ | refine c_cond_f rfl ?_ | ((first | refine c_cond_d rfl (fun h => ?_) (fun h => ?_) | refine c_cond_n rfl (fun h => ?_) (fun h => ?_)) <;> (try (first | contradiction | (exfalso; omega)))) | refine c_cond_nb rfl (fun h => ?_) (fun h => ?_) | refine c_cond rfl (fun h => ?_) (fun h => ?_))) | refine c_block ?_ | refine c_skip ?_ | refine c_exit ?_ | refine c_regionQN rfl rfl (by decide +kernel) ?_)) | apply s_stepQ | (refine kQG ?_; (first | refine s_gyesQ rfl rfl rfl ?_ | refine s_gnoQ rfl rfl rfl rfl rfl ?_ | ((first | refine s_splitQ_d rfl rfl (fun h => ?_) (fun h => ?_) | refine s_splitQ_n rfl rfl (fun h => ?_) (fun h => ?_)) <;> (try (first | contradiction | (exfalso; omega)))) | refine s_splitQ_nb rfl rfl (fun h => ?_) (fun h => ?_) | refine s_splitQ rfl rfl (fun h => ?_) (fun h => ?_))) | refine lQ_then ?_ | refine lQ_ends ?_ | (refine kE ?_; (first | refine e_then_r ?_ | refine e_block_r ?_ | refine e_then_n ?_ | refine e_then_x ?_ | refine e_block_n ?_ | refine e_block_x ?_ | refine e_block_y rfl ?_)) | refine l_ends ?_)
    all_goals refine s_leave2 rfl rfl rfl (fun w hw => ⟨?_, hw.below⟩)
    all_goals (unfold orientPoint; rw [if_neg hok])
theorem c_sorientPoint (wd ht o x y : Int) (W : World) : SYields Try.prog 236 #[.int .i64 wd, .int .i64 ht, .int .i64 o, .int .i64 x, .int .i64 y] (.tuple #[.int .i64 (orientPoint wd ht o x y).1, .int .i64 (orientPoint wd ht o x y).2]) W := by
  by_cases hok : orientOk wd ht o ∧ (0 ≤ x ∧ x ≤ wd - 1) ∧ (0 ≤ y ∧ y ≤ ht - 1)
  · have hok' := hok
    unfold orientOk at hok'
    obtain ⟨⟨hw0, hh0, ho0⟩, hx0, hy0⟩ := hok'
    have b1 := fun k => o_bd hw0 hh0 hx0 hy0 k
    have b2 := fun k => o_bd (x := wd - 1 - x) hw0 hh0 (by omega) hy0 k
    have hm : (o % 4).toNat ≤ 3 := by omega
    (first | apply SYields.mk | apply SYieldsF.mk | skip); refine s_enter Try.func236 rfl Try.ntmps236 rfl ?_
    repeat' (first | exact rfl | (apply kO; (first | exact ov_pure rfl | (apply kOBin; (first | exact aBin | exact (ov_sub rfl rfl (by first | omega | (have := b1 k; have := b2 k; omega))))) | (apply kOCall; (first | (apply kCallF; (first | exact (ov_call rfl (fun w hw => c_l01In _ _ _ w)))) | (apply kCallB; (first | exact aBlt | exact aLenR)))) | (apply kOLoad; (first | exact aLdF | exact aLdR)) | exact ov_fieldAddr rfl | (apply kOIdx; (first | exact aIdx)) | exact aRest | exact aNew | exact (ov_field1 (ft := 37) rfl rfl rfl rfl))) | (refine kN ?_; (first | (refine kStore ?_; (first | refine s_store1 _ rfl rfl gpA rfl (by rfl) ?_ | refine s_storeS _ rfl rfl gpA rfl rfl (by rfl) ?_ | refine s_storeS _ rfl rfl gpA rfl (ones_img oiA) (by rfl) ?_)) | refine s_boxS rfl rfl (fun b hb => ?_) | refine s_allocS rfl (fun b hb => ?_) | refine s_box1 rfl rfl rfl (fun b hb => ?_) | refine s_alloc1 rfl rfl (fun b hb => ?_) | refine s_buildSlice0 rfl (fun b hb => ?_) | refine s_buildSlice rfl rfl rfl rfl rfl (fun b hb => ?_) | apply s_step)) | (refine kG ?_; (first | refine s_gyes rfl rfl rfl ?_ | refine s_gno rfl rfl rfl rfl rfl ?_ | ((first | refine s_split_d rfl rfl (fun h => ?_) (fun h => ?_) | refine s_split_n rfl rfl (fun h => ?_) (fun h => ?_)) <;> (try (first | contradiction | (exfalso; omega)))) | refine s_split_nb rfl rfl (fun h => ?_) (fun h => ?_) | refine s_split rfl rfl (fun h => ?_) (fun h => ?_))) | refine l_then ?_ | (refine kC ?_; (first | (refine c_loopV (ι := Nat) (fun k => k ≤ (o % 4).toNat) (fun k => [(3, .int .i64 (oX wd ht (wd - 1 - x) y k)), (4, .int .i64 (oY wd ht (wd - 1 - x) y k)), (0, .int .i64 (oW wd ht k)), (1, .int .i64 (oW ht wd k)), (12, .int .i64 (k : Int))]) (fun _ => []) (fun k => (o % 4).toNat - k) 0 (by omega) rfl (fun _ => rfl) ⟨rfl, rfl, rfl, rfl, rfl, trivial⟩ (fun w hw => hw) (fun k hk => ?_)) | (refine c_loopV (ι := Nat) (fun k => k ≤ (o % 4).toNat) (fun k => [(3, .int .i64 (oX wd ht x y k)), (4, .int .i64 (oY wd ht x y k)), (0, .int .i64 (oW wd ht k)), (1, .int .i64 (oW ht wd k)), (12, .int .i64 (k : Int))]) (fun _ => []) (fun k => (o % 4).toNat - k) 0 (by omega) rfl (fun _ => rfl) ⟨rfl, rfl, rfl, rfl, rfl, trivial⟩ (fun w hw => hw) (fun k hk => ?_)) | refine c_seq ?_ | refine c_regionN rfl ?_ | refine c_ret ?_ | (refine kCond ?_; (first | refine c_cond_t rfl ?_ | refine c_cond_f rfl ?_ | ((first | refine c_cond_d rfl (fun h => ?_) (fun h => ?_) | refine c_cond_n rfl (fun h => ?_) (fun h => ?_)) <;> (try (first | contradiction | (exfalso; omega)))) | refine c_cond_nb rfl (fun h => ?_) (fun h => ?_) | refine c_cond rfl (fun h => ?_) (fun h => ?_))) | refine c_block ?_ | refine c_skip ?_ | refine c_exit ?_ | refine c_regionQN rfl rfl (by decide +kernel) ?_)) | apply s_stepQ | (refine kQG ?_; (first | refine s_gyesQ rfl rfl rfl ?_ | refine s_gnoQ rfl rfl rfl rfl rfl ?_ | ((first | refine s_splitQ_d rfl rfl (fun h => ?_) (fun h => ?_) | refine s_splitQ_n rfl rfl (fun h => ?_) (fun h => ?_)) <;> (try (first | contradiction | (exfalso; omega)))) | refine s_splitQ_nb rfl rfl (fun h => ?_) (fun h => ?_) | refine s_splitQ rfl rfl (fun h => ?_) (fun h => ?_))) | refine lQ_then ?_ | refine lQ_ends ?_ | (refine kE ?_; (first | refine e_then_r ?_ | refine e_block_r ?_ | refine e_then_n ?_ | refine e_then_x ?_ | refine e_block_n ?_ | refine e_block_x ?_ | refine e_block_y rfl ?_)) | refine l_ends ?_)
    all_goals first | exact e_round (k + 1) (by omega) ⟨slook_to rfl (vint_to (o_next _ _ _ _ k (by omega)).1.symm), slook_to rfl (vint_to (o_next _ _ _ _ k (by omega)).2.1.symm), slook_to rfl (vint_to (o_next wd ht (wd - 1 - x) y k (by omega)).2.2.1.symm), slook_to rfl (vint_to (o_next wd ht (wd - 1 - x) y k (by omega)).2.2.2.symm), rfl, (by repeat' first | exact trivial | refine ⟨rfl, ?_⟩)⟩ (fun w hw => hw) (by omega) | skip
    all_goals (have hk' : k = (o % 4).toNat := by omega)
    all_goals refine s_leave2 rfl rfl rfl (fun w hw => ⟨ret_pair ?_ ?_, hw.below⟩)
    all_goals (rw [hk', orientPoint, if_pos hok, orientPt_turns ho0]; first | rw [if_pos (by omega)] | rw [if_neg (by omega)])
  · have hok2 := hok
    unfold orientOk at hok2
    (first | apply SYields.mk | apply SYieldsF.mk | skip); refine s_enter Try.func236 rfl Try.ntmps236 rfl ?_
    repeat' (first | exact rfl | (apply kO; (first | exact ov_pure rfl | (apply kOBin; (first | exact aBin | exact (ov_sub rfl rfl (by omega)))) | (apply kOCall; (first | (apply kCallF; (first | exact (ov_call rfl (fun w hw => c_l01In _ _ _ w)))) | (apply kCallB; (first | exact aBlt | exact aLenR)))) | (apply kOLoad; (first | exact aLdF | exact aLdR)) | exact ov_fieldAddr rfl | (apply kOIdx; (first | exact aIdx)) | exact aRest | exact aNew | exact (ov_field1 (ft := 37) rfl rfl rfl rfl))) | (refine kN ?_; (first | (refine kStore ?_; (first | refine s_store1 _ rfl rfl gpA rfl (by rfl) ?_ | refine s_storeS _ rfl rfl gpA rfl rfl (by rfl) ?_ | refine s_storeS _ rfl rfl gpA rfl (ones_img oiA) (by rfl) ?_)) | refine s_boxS rfl rfl (fun b hb => ?_) | refine s_allocS rfl (fun b hb => ?_) | refine s_box1 rfl rfl rfl (fun b hb => ?_) | refine s_alloc1 rfl rfl (fun b hb => ?_) | refine s_buildSlice0 rfl (fun b hb => ?_) | refine s_buildSlice rfl rfl rfl rfl rfl (fun b hb => ?_) | apply s_step)) | (refine kG ?_; (first | refine s_gyes rfl rfl rfl ?_ | refine s_gno rfl rfl rfl rfl rfl ?_ | ((first | refine s_split_d rfl rfl (fun h => ?_) (fun h => ?_) | refine s_split_n rfl rfl (fun h => ?_) (fun h => ?_)) <;> (try (first | contradiction | (exfalso; omega)))) | refine s_split_nb rfl rfl (fun h => ?_) (fun h => ?_) | refine s_split rfl rfl (fun h => ?_) (fun h => ?_))) | refine l_then ?_ | (refine kC ?_; (first | refine c_seq ?_ | refine c_regionN rfl ?_ | refine c_ret ?_ | (refine kCond ?_; (first | refine c_cond_t rfl ?_ | refine c_cond_f rfl ?_ | ((first | refine c_cond_d rfl (fun h => ?_) (fun h => ?_) | refine c_cond_n rfl (fun h => ?_) (fun h => ?_)) <;> (try (first | contradiction | (exfalso; omega)))) | refine c_cond_nb rfl (fun h => ?_) (fun h => ?_) | refine c_cond rfl (fun h => ?_) (fun h => ?_))) | refine c_block ?_ | refine c_skip ?_ | refine c_exit ?_ | refine c_regionQN rfl rfl (by decide +kernel) ?_)) | apply s_stepQ | (refine kQG ?_; (first | refine s_gyesQ rfl rfl rfl ?_ | refine s_gnoQ rfl rfl rfl rfl rfl ?_ | ((first | refine s_splitQ_d rfl rfl (fun h => ?_) (fun h => ?_) | refine s_splitQ_n rfl rfl (fun h => ?_) (fun h => ?_)) <;> (try (first | contradiction | (exfalso; omega)))) | refine s_splitQ_nb rfl rfl (fun h => ?_) (fun h => ?_) | refine s_splitQ rfl rfl (fun h => ?_) (fun h => ?_))) | refine lQ_then ?_ | refine lQ_ends ?_ | (refine kE ?_; (first | refine e_then_r ?_ | refine e_block_r ?_ | refine e_then_n ?_ | refine e_then_x ?_ | refine e_block_n ?_ | refine e_block_x ?_ | refine e_block_y rfl ?_)) | refine l_ends ?_)
    all_goals refine s_leave2 rfl rfl rfl (fun w hw => ⟨?_, hw.below⟩)
    all_goals (unfold orientPoint; rw [if_neg hok])
end Go.Proofs.Ytfmjeakcfmmkfaa
/-
  Rules for unsigned numbers, copies, slices; slices.Repeat of one number.
-/
set_option linter.unusedVariables false
namespace Go.Proofs.Ytfmjeakcfmmkfaa
open Go Sx
attribute [local irreducible] Exit.then Exit.inBlock bodyPost
theorem u64_in (i : Int) (h : 0 ≤ i ∧ i ≤ 18446744073709551615) : IntKind.u64.wrap i = i := by
  simp [IntKind.wrap, IntKind.bits, IntKind.signed]; omega
section
variable {P : Program} {n : Nat} {lo : SMut} {s : World} {E : SEnv} {L : SHeap} {d : Option Tmp} {ty : TypeId} {pos : String} {after : Array Edge} {g : Option (Nat × Bool)} {x y : Operand} {xt yt : TypeId} {i j : Int}
theorem ov_addU (q : Int) (hx : sval E x = some (.int .u64 i)) (hy : sval E y = some (.int .u64 j)) (h : i + j = q) (hq : 0 ≤ q ∧ q ≤ 18446744073709551615) : SOpV P n lo s E L ⟨d, .binOp .add xt x y yt, ty, pos, after, g⟩ (.int .u64 q) :=
  SOpV.of_run fun a ha w hw => by simp [execOp, eqGuard, binOp, Op.intArith, ha.sval hx, ha.sval hy, h, u64_in _ hq]
theorem ov_mulU (q : Int) (hx : sval E x = some (.int .u64 i)) (hy : sval E y = some (.int .u64 j)) (h : i * j = q) (hq : 0 ≤ q ∧ q ≤ 18446744073709551615) : SOpV P n lo s E L ⟨d, .binOp .mul xt x y yt, ty, pos, after, g⟩ (.int .u64 q) :=
  SOpV.of_run fun a ha w hw => by simp [execOp, eqGuard, binOp, Op.intArith, ha.sval hx, ha.sval hy, h, u64_in _ hq]
theorem ov_shrU {kj : IntKind} (q : Int) (hx : sval E x = some (.int .u64 i)) (hy : sval E y = some (.int kj j)) (hj : 0 ≤ j ∧ j ≤ 62) (hq : i / 2 ^ j.toNat = q) : SOpV P n lo s E L ⟨d, .binOp .shr xt x y yt, ty, pos, after, g⟩ (.int .u64 q) :=
  SOpV.of_run fun a ha w hw => by
    have h0 : ¬ j < 0 := by omega
    have h1 : min j.toNat (IntKind.bits .u64) = j.toNat := by simp [IntKind.bits]; omega
    have h2 : i.fdiv (2 ^ j.toNat) = i / 2 ^ j.toNat := Int.fdiv_eq_ediv_of_nonneg _ (Int.le_of_lt (Int.pow_pos (by omega)))
    simp [execOp, eqGuard, binOp, Op.shift, ha.sval hx, ha.sval hy, h0, h1, h2, hq]
theorem ov_andU (q : Int) (hx : sval E x = some (.int .u64 i)) (hy : sval E y = some (.int .u64 4294967295)) (hi : 0 ≤ i ∧ i ≤ 4294967295) (hq : i = q) : SOpV P n lo s E L ⟨d, .binOp .and xt x y yt, ty, pos, after, g⟩ (.int .u64 q) :=
  SOpV.of_run fun a ha w hw => by
    subst hq
    obtain ⟨m, rfl⟩ := Int.eq_ofNat_of_zero_le hi.1
    have hm : m < 2 ^ 32 := by omega
    have h1 : (BitVec.ofInt 64 (m : Int)).toNat = m := by rw [BitVec.toNat_ofInt]; omega
    have h2 : (BitVec.ofInt 64 4294967295).toNat = 2 ^ 32 - 1 := by decide
    have h3 : ((BitVec.ofInt 64 (m : Int) &&& BitVec.ofInt 64 4294967295).toNat : Int) = m := by
      rw [BitVec.toNat_and, h1, h2, Nat.and_two_pow_sub_one_eq_mod, Nat.mod_eq_of_lt hm]
    have : (execOp a.eval ⟨d, .binOp .and xt x y yt, ty, pos, after, g⟩).run P w = .ok (.value (.int .u64 (IntKind.u64.wrap ((BitVec.ofInt 64 (m : Int) &&& BitVec.ofInt 64 4294967295).toNat : Int)))) w := by
      simp only [execOp, eqGuard, binOp, Op.intBits, ha.sval hx, ha.sval hy]
      rfl
    rw [this, h3, u64_in _ (by omega)]
theorem ov_convU {src dst : TypeId} {sd : TypeDesc} {k : IntKind} [hs : SUnd P src sd] [hd : SUnd P dst (.int .u64)] (hx : sval E x = some (.int k i)) (h : 0 ≤ i ∧ i ≤ 18446744073709551615) :
    SOpV P n lo s E L ⟨d, .convert src dst x, ty, pos, after, g⟩ (.int .u64 i) :=
  SOpV.of_run fun a ha w hw => by
    have e : P.intKind dst = .u64 := by unfold Program.intKind; rw [hd.h]
    have h1 := run_convert_int (P := P) (w := w) src dst k i (by rw [hs.h]; rfl) (by rw [e]; exact hd.h)
    rw [e] at h1
    simp [execOp, ha.sval hx, h1, u64_in i h]
/-- s[:hi] of an own slice -/
theorem ov_sliceHi {t e : TypeId} {a : Option Addr} {m c : Nat} {z : Value} {kk by_ : Nat} {ik : IntKind} [hu : SUnd P t (.slice e)] [hi : SInf P e z kk by_] (hx : sval E x = some (.slice a m c)) (hy : sval E y = some (.int ik j)) (hj : 0 ≤ j ∧ j ≤ c) :
    SOpV P n lo s E L ⟨d, .slice t x none (some y) none, ty, pos, after, g⟩ (.slice a j.toNat c) :=
  SOpV.of_run fun aa ha w hw => by
    cases a with
    | none => simp [execOp, Instr.sliceAt, Instr.slice, Instr.sliceBounds, Instr.sliceBound, asIntOf, ha.sval hx, ha.sval hy, srun_und, srun_sizeOf, hj.1, hj.2]
    | some A =>
      have hA : A.add 0 = A := rfl
      simp [execOp, Instr.sliceAt, Instr.slice, Instr.sliceBounds, Instr.sliceBound, asIntOf, ha.sval hx, ha.sval hy, srun_und, srun_sizeOf, hj.1, hj.2, hA]
/-- s[lo:] of an own slice -/
theorem ov_sliceLo {t e : TypeId} {b o m c : Nat} {z : Value} {by_ : Nat} {ik : IntKind} [hu : SUnd P t (.slice e)] [hi : SInf P e z 1 by_] (hx : sval E x = some (.slice (some ⟨b, o, none⟩) m c)) (hy : sval E y = some (.int ik j)) (hj : 0 ≤ j ∧ j ≤ m ∧ j < c) :
    SOpV P n lo s E L ⟨d, .slice t x (some y) none none, ty, pos, after, g⟩ (.slice (some ⟨b, o + j.toNat, none⟩) (m - j.toNat) (c - j.toNat)) :=
  SOpV.of_run fun aa ha w hw => by
    have hc : ¬ c = j.toNat := by omega
    simp [execOp, Instr.sliceAt, Instr.slice, Instr.sliceBounds, Instr.sliceBound, asIntOf, ha.sval hx, ha.sval hy, srun_und, srun_sizeOf, hj.1, hj.2.1, hc, Addr.add_lit]
end
section
variable {P : Program} {n : Nat} {lo : SMut} {s : World} {ops : Array Oper} {Q : Exit → Act → World → Prop} {E : SEnv} {L : SHeap} {d : Nat} {ty : TypeId} {pos : String} {after : Array Edge} {rest : List Oper}
/-- copy into an own block of one-cell elements -/
theorem s_copyOwn (i : Nat) {dT sT e X : TypeId} {x y : Operand} {b o m c m2 c2 : Nat} {a : Addr} {cur cs : List Value} {T : TypeId} {z : Value} {by_ : Nat} [hu : SUnd P dT (.slice e)] [hi : SInf P e z 1 by_]
    (hx : sval E x = some (.slice (some ⟨b, o, none⟩) m c)) (hy : sval E y = some (.slice (some a) m2 c2)) (hL : getL L i = some [(b, srow cur T)]) (hn : cs.length = Nat.min m2 m) (hfit : o + cs.length ≤ cur.length) (h1 : oneCells cs = true)
    (hsrc : ∀ w, SSt lo s L w → ∀ j v, cs[j]? = some v → w.cell? (a.add j) = some v) (hd : Nat.blt d n = true)
    (kk : WPL P n lo s ops Q rest ((d, .int .i64 cs.length) :: E) (setL L i [(b, srow (cur.take o ++ cs ++ cur.drop (o + cs.length)) T)])) :
    WPL P n lo s ops Q (⟨some d, .call { callee := .builtin .copy, args := #[x, y], argTypes := #[dT, sT] }, X, pos, after, none⟩ :: rest) E L := by
  refine s_eff (E' := fun _ _ => []) (fun w u w' => u = .int .i64 cs.length ∧ w' = w.setRow b (cur.take o ++ cs ++ cur.drop (o + cs.length)).toArray) (fun aa w ha hw => ⟨_, _, ?_, rfl, rfl⟩) hd ?_
  · obtain ⟨ii, i1, i2, i3, i4⟩ := hi.out
    have hblk := (hw.blocks b _ (getL_flat hL (List.mem_singleton.2 rfl))).2
    have h := run_copy_row (P := P) w dT sT X e b o m c a m2 c2 cur.toArray T cs hu.h (by rw [i1]; simp [i3]) hblk hn (hsrc w hw) (by simpa using hfit) (oneCells_mem h1)
    simp [execOp, resolve, invoke, builtin, ha.sval hx, ha.sval hy, h, goInt]
  · rintro w u w' hw ⟨rfl, rfl⟩ aa ha
    exact (by unfold WPL at kk; exact kk aa _ ha (hw.srow hL))
end
theorem c_mul64 (q : Int) (w : World) (h : 0 ≤ q ∧ q ≤ 1000000) : SYields Try.prog 241 #[.int .u64 1, .int .u64 q] (.tuple #[.int .u64 0, .int .u64 q]) w := by
  (first | apply SYields.mk | apply SYieldsF.mk | skip); refine s_enter Try.func241 rfl Try.ntmps241 rfl ?_
  repeat' (first | exact rfl | (apply kO; (first | exact ov_pure rfl | (apply kOBin; (first | exact aBin | exact (ov_andU 1 rfl rfl (by omega) (by omega)) | exact (ov_andU q rfl rfl (by omega) (by omega)) | exact (ov_andU 0 rfl rfl (by omega) (by omega)) | exact (ov_shrU 0 rfl rfl (by omega) (by simp; try omega)))) | (apply kOCall; (first | (apply kCallB; (first | exact aBlt | exact aLenR)))) | (apply kOLoad; (first | exact aLdF | exact aLdR)) | exact ov_fieldAddr rfl | (apply kOIdx; (first | exact aIdx)) | exact aRest | exact (ov_mulU q rfl rfl (by omega) (by omega)) | exact (ov_mulU 0 rfl rfl (by omega) (by omega)) | exact (ov_addU 0 rfl rfl (by omega) (by omega)) | exact aNew | exact (ov_field1 (ft := 37) rfl rfl rfl rfl))) | (refine kN ?_; (first | (refine kStore ?_; (first | refine s_store1 _ rfl rfl gpA rfl (by rfl) ?_ | refine s_storeS _ rfl rfl gpA rfl rfl (by rfl) ?_ | refine s_storeS _ rfl rfl gpA rfl (ones_img oiA) (by rfl) ?_)) | refine s_boxS rfl rfl (fun b hb => ?_) | refine s_allocS rfl (fun b hb => ?_) | refine s_box1 rfl rfl rfl (fun b hb => ?_) | refine s_alloc1 rfl rfl (fun b hb => ?_) | refine s_buildSlice0 rfl (fun b hb => ?_) | refine s_buildSlice rfl rfl rfl rfl rfl (fun b hb => ?_) | apply s_step)) | (refine kG ?_; (first | refine s_gyes rfl rfl rfl ?_ | refine s_gno rfl rfl rfl rfl rfl ?_ | ((first | refine s_split_d rfl rfl (fun h => ?_) (fun h => ?_) | refine s_split_n rfl rfl (fun h => ?_) (fun h => ?_)) <;> (try (first | contradiction | (exfalso; omega)))) | refine s_split_nb rfl rfl (fun h => ?_) (fun h => ?_) | refine s_split rfl rfl (fun h => ?_) (fun h => ?_))) | refine l_then ?_ | (refine kC ?_; (first | refine c_seq ?_ | refine c_regionN rfl ?_ | refine c_ret ?_ | (refine kCond ?_; (first | refine c_cond_t rfl ?_ | refine c_cond_f rfl ?_ | ((first | refine c_cond_d rfl (fun h => ?_) (fun h => ?_) | refine c_cond_n rfl (fun h => ?_) (fun h => ?_)) <;> (try (first | contradiction | (exfalso; omega)))) | refine c_cond_nb rfl (fun h => ?_) (fun h => ?_) | refine c_cond rfl (fun h => ?_) (fun h => ?_))) | refine c_block ?_ | refine c_skip ?_ | refine c_exit ?_ | refine c_regionQN rfl rfl (by decide +kernel) ?_)) | apply s_stepQ | (refine kQG ?_; (first | refine s_gyesQ rfl rfl rfl ?_ | refine s_gnoQ rfl rfl rfl rfl rfl ?_ | ((first | refine s_splitQ_d rfl rfl (fun h => ?_) (fun h => ?_) | refine s_splitQ_n rfl rfl (fun h => ?_) (fun h => ?_)) <;> (try (first | contradiction | (exfalso; omega)))) | refine s_splitQ_nb rfl rfl (fun h => ?_) (fun h => ?_) | refine s_splitQ rfl rfl (fun h => ?_) (fun h => ?_))) | refine lQ_then ?_ | refine lQ_ends ?_ | (refine kE ?_; (first | refine e_then_r ?_ | refine e_block_r ?_ | refine e_then_n ?_ | refine e_then_x ?_ | refine e_block_n ?_ | refine e_block_x ?_ | refine e_block_y rfl ?_)) | refine l_ends ?_)
  all_goals exact s_leave2 rfl rfl rfl (fun w hw => ⟨rfl, hw.below⟩)
theorem c_mul (q : Int) (w : World) (h : 0 ≤ q ∧ q ≤ 1000000) : SYields Try.prog 234 #[.int .u64 1, .int .u64 q] (.tuple #[.int .u64 0, .int .u64 q]) w := by
  (first | apply SYields.mk | apply SYieldsF.mk | skip); refine s_enter Try.func234 rfl Try.ntmps234 rfl ?_
  repeat' (first | exact rfl | (apply kO; (first | exact ov_pure rfl | (apply kOBin; (first | exact aBin)) | (apply kOCall; (first | (apply kCallF; (first | exact (ov_call rfl (fun w hw => c_mul64 _ w (by omega))))) | (apply kCallB; (first | exact aBlt | exact aLenR)))) | (apply kOLoad; (first | exact aLdF | exact aLdR)) | exact ov_fieldAddr rfl | (apply kOIdx; (first | exact aIdx)) | exact aRest | exact aNew | exact (ov_field1 (ft := 37) rfl rfl rfl rfl))) | (refine kN ?_; (first | (refine kStore ?_; (first | refine s_store1 _ rfl rfl gpA rfl (by rfl) ?_ | refine s_storeS _ rfl rfl gpA rfl rfl (by rfl) ?_ | refine s_storeS _ rfl rfl gpA rfl (ones_img oiA) (by rfl) ?_)) | refine s_boxS rfl rfl (fun b hb => ?_) | refine s_allocS rfl (fun b hb => ?_) | refine s_box1 rfl rfl rfl (fun b hb => ?_) | refine s_alloc1 rfl rfl (fun b hb => ?_) | refine s_buildSlice0 rfl (fun b hb => ?_) | refine s_buildSlice rfl rfl rfl rfl rfl (fun b hb => ?_) | apply s_step)) | (refine kG ?_; (first | refine s_gyes rfl rfl rfl ?_ | refine s_gno rfl rfl rfl rfl rfl ?_ | ((first | refine s_split_d rfl rfl (fun h => ?_) (fun h => ?_) | refine s_split_n rfl rfl (fun h => ?_) (fun h => ?_)) <;> (try (first | contradiction | (exfalso; omega)))) | refine s_split_nb rfl rfl (fun h => ?_) (fun h => ?_) | refine s_split rfl rfl (fun h => ?_) (fun h => ?_))) | refine l_then ?_ | (refine kC ?_; (first | refine c_seq ?_ | refine c_regionN rfl ?_ | refine c_ret ?_ | (refine kCond ?_; (first | refine c_cond_t rfl ?_ | refine c_cond_f rfl ?_ | ((first | refine c_cond_d rfl (fun h => ?_) (fun h => ?_) | refine c_cond_n rfl (fun h => ?_) (fun h => ?_)) <;> (try (first | contradiction | (exfalso; omega)))) | refine c_cond_nb rfl (fun h => ?_) (fun h => ?_) | refine c_cond rfl (fun h => ?_) (fun h => ?_))) | refine c_block ?_ | refine c_skip ?_ | refine c_exit ?_ | refine c_regionQN rfl rfl (by decide +kernel) ?_)) | apply s_stepQ | (refine kQG ?_; (first | refine s_gyesQ rfl rfl rfl ?_ | refine s_gnoQ rfl rfl rfl rfl rfl ?_ | ((first | refine s_splitQ_d rfl rfl (fun h => ?_) (fun h => ?_) | refine s_splitQ_n rfl rfl (fun h => ?_) (fun h => ?_)) <;> (try (first | contradiction | (exfalso; omega)))) | refine s_splitQ_nb rfl rfl (fun h => ?_) (fun h => ?_) | refine s_splitQ rfl rfl (fun h => ?_) (fun h => ?_))) | refine lQ_then ?_ | refine lQ_ends ?_ | (refine kE ?_; (first | refine e_then_r ?_ | refine e_block_r ?_ | refine e_then_n ?_ | refine e_then_x ?_ | refine e_block_n ?_ | refine e_block_x ?_ | refine e_block_y rfl ?_)) | refine l_ends ?_)
  all_goals exact s_leave2 rfl rfl rfl (fun w hw => ⟨rfl, hw.below⟩)
def fillP (p : Int) (n j : Nat) : List Int := List.replicate j p ++ List.replicate (n - j) 0
theorem fillP_length (p : Int) {n j : Nat} (h : j ≤ n) : (fillP p n j).length = n := by simp [fillP]; omega
theorem fillP_copy (p : Int) {n j m : Nat} (hj : j + m ≤ n) : (ivals (fillP p n j)).take j ++ ivals (List.replicate m p) ++ (ivals (fillP p n j)).drop (j + (ivals (List.replicate m p)).length) = ivals (fillP p n (j + m)) := by
  have e1 : (ivals (fillP p n j)).take j = ivals (List.replicate j p) := by
    simp [fillP, ivals]
  have e2 : (ivals (fillP p n j)).drop (j + m) = ivals (List.replicate (n - (j + m)) 0) := by
    simp only [fillP, ivals, List.map_append, List.map_replicate]
    rw [List.drop_append, List.drop_of_length_le (by simp), List.nil_append, List.length_replicate, List.drop_replicate]
    congr 1; omega
  rw [ivals_length, List.length_replicate, e1, e2]
  simp [fillP, ivals, ← List.append_assoc, List.replicate_append_replicate]
theorem fillP_one (p : Int) {n : Nat} : (List.replicate n (Value.int .i64 0)).take 0 ++ [Value.int .i64 p] ++ (List.replicate n (Value.int .i64 0)).drop (0 + [Value.int .i64 p].length) = ivals (fillP p n 1) := by
  simp [fillP, ivals]
theorem fillP_src (p : Int) {n j k m : Nat} {u : Value} (h : (ivals (List.replicate (min j k) p))[m]? = some u) : (ivals (fillP p n j))[m]? = some u := by
  simp only [ivals, fillP, List.map_append, List.map_replicate, List.getElem?_replicate] at h ⊢
  split at h
  · rw [List.getElem?_append_left (by simp; omega), List.getElem?_replicate, if_pos (by omega)]; exact h
  · cases h
theorem fillP_all (p : Int) (n : Nat) : fillP p n n = List.replicate n p := by simp [fillP]
theorem c_repeat (v : Value) (p q : Int) (w : World) (hv : RInts w v [p]) (hq : 1 ≤ q ∧ q ≤ 100000) : SYieldsF Try.prog 207 #[v, .int .i64 q] (fun u H => OInts 3 u (List.replicate q.toNat p) H) w := by
  have hv' := hv.form
  obtain ⟨a, c, rfl⟩ := hv'
  obtain ⟨b0, o0, rfl⟩ : ∃ b o, a = some ⟨b, o, none⟩ := by
    obtain ⟨a', c', he, hf⟩ := RRow.form hv
    obtain ⟨b, o, rfl⟩ := hf (by simp)
    cases he; exact ⟨b, o, rfl⟩
  have hs1 : ([p].length : Nat) = 1 := rfl
  rw [hs1]
  have hf0 := fillP_copy p (n := q.toNat) (j := 0) (m := 1) (by omega)
  (first | apply SYields.mk | apply SYieldsF.mk | skip); refine s_enter Try.func207 rfl Try.ntmps207 rfl ?_
  repeat' (first | exact rfl | (apply kO; (first | exact ov_pure rfl | (apply kOBin; (first | exact aBin | exact (ov_add rfl rfl (by rw [ivals_length, List.length_replicate]; omega)))) | (apply kOCall; (first | (apply kCallF; (first | exact (ov_call rfl (fun w hw => c_mul _ w (by omega))))) | (apply kCallB; (first | exact aBlt | exact aLenR)))) | (apply kOLoad; (first | exact aLdF | exact aLdR)) | exact ov_fieldAddr rfl | (apply kOIdx; (first | exact aIdx)) | exact aRest | exact (ov_convU rfl (by omega)) | exact (ov_gtr rfl rfl) | (apply kSlice; exact (ov_sliceHi rfl rfl (by omega))) | (apply kSlice; exact (ov_sliceLo rfl rfl (by omega))) | exact aNew | exact (ov_field1 (ft := 37) rfl rfl rfl rfl))) | (refine kN ?_; (first | (refine kCall ?_; (first | (refine s_copyOwn 0 (cs := [.int .i64 p]) rfl rfl rfl (by show 1 = min 1 q.toNat; omega) (by rw [List.length_replicate]; show 0 + 1 ≤ q.toNat; omega) rfl (fun w hw j u hu => RInts.src (hv.keep (hw.cells rfl)) j u (by simpa [ivals] using hu)) rfl ?_) | (refine s_copyOwn 0 (cs := ivals (List.replicate (min j (q.toNat - j)) p)) rfl rfl rfl (by rw [ivals_length, List.length_replicate, Int.toNat_natCast] <;> first | done | rfl) (by rw [ivals_length, ivals_length, List.length_replicate, fillP_length _ (by omega)]; omega) (oneCells_ivals _) (fun w hw m u hu => by rw [Addr.add_lit, Nat.zero_add]; exact hw.captured (i := 0) rfl m u (fillP_src p hu)) rfl ?_) | apply s_step)) | (refine kStore ?_; (first | refine s_store1 _ rfl rfl gpA rfl (by rfl) ?_ | refine s_storeS _ rfl rfl gpA rfl rfl (by rfl) ?_ | refine s_storeS _ rfl rfl gpA rfl (ones_img oiA) (by rfl) ?_)) | refine s_boxS rfl rfl (fun b hb => ?_) | refine s_allocS rfl (fun b hb => ?_) | refine s_box1 rfl rfl rfl (fun b hb => ?_) | refine s_alloc1 rfl rfl (fun b hb => ?_) | (refine kWMake ?_; (refine s_make1 rfl rfl rfl ⟨by omega, by omega, by omega⟩ (by omega) rfl (fun b hb => ?_))) | refine s_buildSlice0 rfl (fun b hb => ?_) | refine s_buildSlice rfl rfl rfl rfl rfl (fun b hb => ?_) | apply s_step)) | (refine kG ?_; (first | refine s_gyes rfl rfl rfl ?_ | refine s_gno rfl rfl rfl rfl rfl ?_ | ((first | refine s_split_d rfl rfl (fun h => ?_) (fun h => ?_) | refine s_split_n rfl rfl (fun h => ?_) (fun h => ?_)) <;> (try (first | contradiction | (exfalso; omega)))) | refine s_split_nb rfl rfl (fun h => ?_) (fun h => ?_) | refine s_split rfl rfl (fun h => ?_) (fun h => ?_))) | (refine kS ?_; (first | refine h_exec rfl ?_ | refine h_take_nil rfl rfl rfl ?_ | refine h_take_pick rfl rfl rfl ?_ | refine h_nil ?_ | refine h_alt ?_ ?_ | apply h_take)) | (refine kBack ?_; (first | refine h_back_last rfl ?_ | refine h_backN rfl subA ?_)) | refine l_then ?_ | (refine kC ?_; (first | (refine kReg 9 ?_; refine c_regionSubN (SPlan.take 0 (SPlan.take 1 (SPlan.take 2 (SPlan.take 3 (SPlan.take 4 (SPlan.take 5 (SPlan.take 6 (SPlan.run 7 (SPlan.take 8 (SPlan.take 9 SPlan.done)))))))))) none [false] rfl rfl rfl (by decide +kernel) ?_) | (refine c_loopV (ι := Nat) (fun j => 1 ≤ j ∧ j ≤ q.toNat) (fun j => [(8, .int .i64 (j : Int))]) (fun j => [[(b, srow (ivals (fillP p q.toNat j)) 3)]]) (fun j => q.toNat - j) 1 (by omega) rfl (fun _ => rfl) ⟨rfl, trivial⟩ (fun w hw => by have e := fillP_one p (n := q.toNat); rw [← e]; exact hw) (fun j hj => ?_)) | refine c_seq ?_ | refine c_regionN rfl ?_ | refine c_ret ?_ | (refine kCond ?_; (first | refine c_cond_t rfl ?_ | refine c_cond_f rfl ?_ | ((first | refine c_cond_d rfl (fun h => ?_) (fun h => ?_) | refine c_cond_n rfl (fun h => ?_) (fun h => ?_)) <;> (try (first | contradiction | (exfalso; omega)))) | refine c_cond_nb rfl (fun h => ?_) (fun h => ?_) | refine c_cond rfl (fun h => ?_) (fun h => ?_))) | refine c_block ?_ | refine c_skip ?_ | refine c_exit ?_ | refine c_regionQN rfl rfl (by decide +kernel) ?_)) | apply s_stepQ | (refine kQG ?_; (first | refine s_gyesQ rfl rfl rfl ?_ | refine s_gnoQ rfl rfl rfl rfl rfl ?_ | ((first | refine s_splitQ_d rfl rfl (fun h => ?_) (fun h => ?_) | refine s_splitQ_n rfl rfl (fun h => ?_) (fun h => ?_)) <;> (try (first | contradiction | (exfalso; omega)))) | refine s_splitQ_nb rfl rfl (fun h => ?_) (fun h => ?_) | refine s_splitQ rfl rfl (fun h => ?_) (fun h => ?_))) | refine lQ_then ?_ | refine lQ_ends ?_ | (refine kE ?_; (first | refine e_then_r ?_ | refine e_block_r ?_ | refine e_then_n ?_ | refine e_then_x ?_ | refine e_block_n ?_ | refine e_block_x ?_ | refine e_block_y rfl ?_)) | refine l_ends ?_)
  · refine e_round (j + min j (q.toNat - j)) ⟨by omega, by omega⟩ ⟨slook_to rfl (vint_to (by rw [ivals_length, List.length_replicate]; push_cast; omega)), (by repeat' first | exact trivial | refine ⟨rfl, ?_⟩)⟩ (fun w hw => ?_) (by omega)
    rw [show 0 + (j : Int).toNat = j by omega, fillP_copy p (by omega)] at hw
    exact hw
  · obtain rfl : j = q.toNat := by omega
    rw [fillP_all]
    refine s_leave1 rfl rfl (fun w hw => ⟨_, _, rfl, ?_, hw.toFresh (i := 0) rfl⟩)
    have := OInts.whole 3 b (List.replicate q.toNat p) (by rw [List.length_replicate]; unfold maxLen; omega)
    rw [List.length_replicate] at this
    exact this
end Go.Proofs.Ytfmjeakcfmmkfaa
/-
  Contracts: a pixel over another one; new images.
-/
set_option linter.unusedVariables false
namespace Go.Proofs.Ytfmjeakcfmmkfaa
open Go Sx
attribute [local irreducible] Exit.then Exit.inBlock bodyPost
/-- the first channels of a pixel over another one -/
def ovk (t c : Int) : Nat → Int
  | 0 => 255
  | k + 1 => ovk t c k * 256 + (prt (chan t ((k : Int) + 1)) (chan t 0) + prt (chan c ((k : Int) + 1)) (255 - chan t 0))
theorem ovk_succ (t c : Int) (k : Nat) : ovk t c (k + 1) = ovk t c k * 256 + (prt (chan t ((k : Int) + 1)) (chan t 0) + prt (chan c ((k : Int) + 1)) (255 - chan t 0)) := rfl
theorem ovk_three {t c : Int} (ht : pixP t) (hc : pixP c) : ovk t c 3 = over t c := by unfold over; rw [if_pos ⟨ht, hc⟩]; rfl
theorem ovp_bd (t c k : Int) : (0 ≤ prt (chan t k) (chan t 0) ∧ prt (chan t k) (chan t 0) ≤ chan t 0) ∧ (0 ≤ prt (chan c k) (255 - chan t 0) ∧ prt (chan c k) (255 - chan t 0) ≤ 255 - chan t 0) ∧ (0 ≤ chan t 0 ∧ chan t 0 ≤ 255) := by
  have h0 := chan_bd t 0
  have h255 : byteP (255 - chan t 0) := by unfold byteP; omega
  have h1 := prt_bd (chan_bd t k) (chan_bd t 0)
  have h2 := prt_bd (chan_bd c k) h255
  exact ⟨h1.2, h2.2, h0⟩
theorem ovk_bd (t c : Int) {k : Nat} (hk : k ≤ 2) : 0 ≤ ovk t c k ∧ ovk t c k ≤ 16777215 := by
  have a := ovp_bd t c 1
  have d := ovp_bd t c 2
  have e1 : ovk t c 1 = 255 * 256 + (prt (chan t 1) (chan t 0) + prt (chan c 1) (255 - chan t 0)) := rfl
  have e2 : ovk t c 2 = ovk t c 1 * 256 + (prt (chan t 2) (chan t 0) + prt (chan c 2) (255 - chan t 0)) := rfl
  match k, hk with
  | 0, _ => exact ⟨show (0 : Int) ≤ 255 by decide, show (255 : Int) ≤ 16777215 by decide⟩
  | 1, _ => rw [e1]; omega
  | 2, _ => rw [e2, e1]; omega
theorem c_iover (t c : Int) (w : World) (ht : pixP t) (hc : pixP c) : SYields Try.prog 209 #[.int .i64 t, .int .i64 c] (.int .i64 (over t c)) w := by
  have hb := fun (k : Nat) (hk : k ≤ 2) => ovk_bd t c hk
  have hp := ovp_bd t c
  have ht' := ht
  have hc' := hc
  unfold pixP at ht' hc'
  (first | apply SYields.mk | apply SYieldsF.mk | skip); refine s_enter Try.func209 rfl Try.ntmps209 rfl ?_
  repeat' (first | exact rfl | (apply kO; (first | exact ov_pure rfl | (apply kOBin; (first | exact aBin | exact (ov_sub rfl rfl (by have := hp 0; omega)) | exact (ov_shlN 8 256 (by decide) (by decide) rfl rfl (by have := hb j (by omega); omega)) | exact (ov_orS 8 (by decide) rfl rfl (by have := hb j (by omega); omega) (by have := hp ((j : Int) + 1); omega)) | exact (ov_add rfl rfl (by have := hb j (by omega); have := hp ((j : Int) + 1); omega)))) | (apply kOCall; (first | (apply kCallF; (first | exact (ov_call rfl (fun w hw => c_isPixel _ w)) | exact (ov_call rfl (fun w hw => c_channel _ _ w (by omega))) | exact (ov_call rfl (fun w hw => c_ipart _ _ w)))) | (apply kCallB; (first | exact aBlt | exact aLenR)))) | (apply kOLoad; (first | exact aLdF | exact aLdR)) | exact ov_fieldAddr rfl | (apply kOIdx; (first | exact aIdx)) | exact aRest | exact aNew | exact (ov_field1 (ft := 37) rfl rfl rfl rfl))) | (refine kN ?_; (first | (refine kStore ?_; (first | refine s_store1 _ rfl rfl gpA rfl (by rfl) ?_ | refine s_storeS _ rfl rfl gpA rfl rfl (by rfl) ?_ | refine s_storeS _ rfl rfl gpA rfl (ones_img oiA) (by rfl) ?_)) | refine s_boxS rfl rfl (fun b hb => ?_) | refine s_allocS rfl (fun b hb => ?_) | refine s_box1 rfl rfl rfl (fun b hb => ?_) | refine s_alloc1 rfl rfl (fun b hb => ?_) | refine s_buildSlice0 rfl (fun b hb => ?_) | refine s_buildSlice rfl rfl rfl rfl rfl (fun b hb => ?_) | apply s_step)) | (refine kG ?_; (first | refine s_gyes rfl rfl rfl ?_ | refine s_gno rfl rfl rfl rfl rfl ?_ | ((first | refine s_split_d rfl rfl (fun h => ?_) (fun h => ?_) | refine s_split_n rfl rfl (fun h => ?_) (fun h => ?_)) <;> (try (first | contradiction | (exfalso; omega)))) | refine s_split_nb rfl rfl (fun h => ?_) (fun h => ?_) | refine s_split rfl rfl (fun h => ?_) (fun h => ?_))) | refine l_then ?_ | (refine kC ?_; (first | (refine c_loopV (ι := Nat) (fun j => j ≤ 3) (fun j => [(6, .int .i64 (ovk t c j)), (7, .int .i64 ((j : Int) + 1))]) (fun _ => []) (fun j => 3 - j) 0 (by omega) rfl (fun _ => rfl) ⟨rfl, rfl, trivial⟩ (fun w hw => hw) (fun j hj => ?_)) | refine c_seq ?_ | refine c_regionN rfl ?_ | refine c_ret ?_ | (refine kCond ?_; (first | refine c_cond_t rfl ?_ | refine c_cond_f rfl ?_ | ((first | refine c_cond_d rfl (fun h => ?_) (fun h => ?_) | refine c_cond_n rfl (fun h => ?_) (fun h => ?_)) <;> (try (first | contradiction | (exfalso; omega)))) | refine c_cond_nb rfl (fun h => ?_) (fun h => ?_) | refine c_cond rfl (fun h => ?_) (fun h => ?_))) | refine c_block ?_ | refine c_skip ?_ | refine c_exit ?_ | refine c_regionQN rfl rfl (by decide +kernel) ?_)) | apply s_stepQ | (refine kQG ?_; (first | refine s_gyesQ rfl rfl rfl ?_ | refine s_gnoQ rfl rfl rfl rfl rfl ?_ | ((first | refine s_splitQ_d rfl rfl (fun h => ?_) (fun h => ?_) | refine s_splitQ_n rfl rfl (fun h => ?_) (fun h => ?_)) <;> (try (first | contradiction | (exfalso; omega)))) | refine s_splitQ_nb rfl rfl (fun h => ?_) (fun h => ?_) | refine s_splitQ rfl rfl (fun h => ?_) (fun h => ?_))) | refine lQ_then ?_ | refine lQ_ends ?_ | (refine kE ?_; (first | refine e_then_r ?_ | refine e_block_r ?_ | refine e_then_n ?_ | refine e_then_x ?_ | refine e_block_n ?_ | refine e_block_x ?_ | refine e_block_y rfl ?_)) | refine l_ends ?_)
  · exact e_round (j + 1) (by omega) ⟨slook_to rfl (vint_to (by rw [ovk_succ]; omega)), slook_to rfl (vint_to (by push_cast; rfl)), (by repeat' first | exact trivial | refine ⟨rfl, ?_⟩)⟩ (fun w hw => hw) (by omega)
  · obtain rfl : j = 3 := by omega
    exact s_leave1 rfl rfl (fun w hw => ⟨ret_int (ovk_three ht hc), hw.below⟩)
theorem c_sover (t c : Int) (w : World) (ht : pixP t) (hc : pixP c) : SYields Try.prog 51 #[.int .i64 t, .int .i64 c] (.int .i64 (over t c)) w := by
  have hb := fun (k : Nat) (hk : k ≤ 2) => ovk_bd t c hk
  have hp := ovp_bd t c
  have ht' := ht
  have hc' := hc
  unfold pixP at ht' hc'
  (first | apply SYields.mk | apply SYieldsF.mk | skip); refine s_enter Try.func51 rfl Try.ntmps51 rfl ?_
  repeat' (first | exact rfl | (apply kO; (first | exact ov_pure rfl | (apply kOBin; (first | exact aBin | exact (ov_sub rfl rfl (by have := hp 0; omega)) | exact (ov_shlN 8 256 (by decide) (by decide) rfl rfl (by have := hb j (by omega); omega)) | exact (ov_orS 8 (by decide) rfl rfl (by have := hb j (by omega); omega) (by have := hp ((j : Int) + 1); omega)) | exact (ov_add rfl rfl (by have := hb j (by omega); have := hp ((j : Int) + 1); omega)))) | (apply kOCall; (first | (apply kCallF; (first | exact (ov_call rfl (fun w hw => c_l04Pixel _ w)) | exact (ov_call rfl (fun w hw => c_schannelIn _ _ w (by omega) (by omega))) | exact (ov_call rfl (fun w hw => c_spart _ _ w)))) | (apply kCallB; (first | exact aBlt | exact aLenR)))) | (apply kOLoad; (first | exact aLdF | exact aLdR)) | exact ov_fieldAddr rfl | (apply kOIdx; (first | exact aIdx)) | exact aRest | exact aNew | exact (ov_field1 (ft := 37) rfl rfl rfl rfl))) | (refine kN ?_; (first | (refine kStore ?_; (first | refine s_store1 _ rfl rfl gpA rfl (by rfl) ?_ | refine s_storeS _ rfl rfl gpA rfl rfl (by rfl) ?_ | refine s_storeS _ rfl rfl gpA rfl (ones_img oiA) (by rfl) ?_)) | refine s_boxS rfl rfl (fun b hb => ?_) | refine s_allocS rfl (fun b hb => ?_) | refine s_box1 rfl rfl rfl (fun b hb => ?_) | refine s_alloc1 rfl rfl (fun b hb => ?_) | refine s_buildSlice0 rfl (fun b hb => ?_) | refine s_buildSlice rfl rfl rfl rfl rfl (fun b hb => ?_) | apply s_step)) | (refine kG ?_; (first | refine s_gyes rfl rfl rfl ?_ | refine s_gno rfl rfl rfl rfl rfl ?_ | ((first | refine s_split_d rfl rfl (fun h => ?_) (fun h => ?_) | refine s_split_n rfl rfl (fun h => ?_) (fun h => ?_)) <;> (try (first | contradiction | (exfalso; omega)))) | refine s_split_nb rfl rfl (fun h => ?_) (fun h => ?_) | refine s_split rfl rfl (fun h => ?_) (fun h => ?_))) | refine l_then ?_ | (refine kC ?_; (first | (refine c_loopV (ι := Nat) (fun j => j ≤ 3) (fun j => [(6, .int .i64 (ovk t c j)), (7, .int .i64 ((j : Int) + 1))]) (fun _ => []) (fun j => 3 - j) 0 (by omega) rfl (fun _ => rfl) ⟨rfl, rfl, trivial⟩ (fun w hw => hw) (fun j hj => ?_)) | refine c_seq ?_ | refine c_regionN rfl ?_ | refine c_ret ?_ | (refine kCond ?_; (first | refine c_cond_t rfl ?_ | refine c_cond_f rfl ?_ | ((first | refine c_cond_d rfl (fun h => ?_) (fun h => ?_) | refine c_cond_n rfl (fun h => ?_) (fun h => ?_)) <;> (try (first | contradiction | (exfalso; omega)))) | refine c_cond_nb rfl (fun h => ?_) (fun h => ?_) | refine c_cond rfl (fun h => ?_) (fun h => ?_))) | refine c_block ?_ | refine c_skip ?_ | refine c_exit ?_ | refine c_regionQN rfl rfl (by decide +kernel) ?_)) | apply s_stepQ | (refine kQG ?_; (first | refine s_gyesQ rfl rfl rfl ?_ | refine s_gnoQ rfl rfl rfl rfl rfl ?_ | ((first | refine s_splitQ_d rfl rfl (fun h => ?_) (fun h => ?_) | refine s_splitQ_n rfl rfl (fun h => ?_) (fun h => ?_)) <;> (try (first | contradiction | (exfalso; omega)))) | refine s_splitQ_nb rfl rfl (fun h => ?_) (fun h => ?_) | refine s_splitQ rfl rfl (fun h => ?_) (fun h => ?_))) | refine lQ_then ?_ | refine lQ_ends ?_ | (refine kE ?_; (first | refine e_then_r ?_ | refine e_block_r ?_ | refine e_then_n ?_ | refine e_then_x ?_ | refine e_block_n ?_ | refine e_block_x ?_ | refine e_block_y rfl ?_)) | refine l_ends ?_)
  · exact e_round (j + 1) (by omega) ⟨slook_to rfl (vint_to (by rw [ovk_succ]; omega)), slook_to rfl (vint_to (by push_cast; rfl)), (by repeat' first | exact trivial | refine ⟨rfl, ?_⟩)⟩ (fun w hw => hw) (by omega)
  · obtain rfl : j = 3 := by omega
    exact s_leave1 rfl rfl (fun w hw => ⟨ret_int (ovk_three ht hc), hw.below⟩)
theorem c_inewImage (p q r : Int) (W : World) (hp : 1 ≤ p ∧ p ≤ 16) (hq : 1 ≤ q ∧ q ≤ 16) (hr : pixP r) : SYieldsF Try.prog 158 #[.int .i64 p, .int .i64 q, .int .i64 r] (fun u H => OImg u ⟨p, q, List.replicate (p * q).toNat r⟩ H) W := by
  have hwh := side_mul (w := p) (h := q) ⟨hp.1, hp.2, hq.1, hq.2⟩
  have hr' := hr
  unfold pixP at hr'
  (first | apply SYields.mk | apply SYieldsF.mk | skip); refine s_enter Try.func158 rfl Try.ntmps158 rfl ?_
  repeat' (first | exact rfl | (apply kO; (first | exact ov_pure rfl | (apply kOBin; (first | exact aBin)) | (apply kOCall; (first | (apply kCallF; (first | exact (ov_call rfl (fun w hw => c_isSide _ w)) | exact (ov_call rfl (fun w hw => c_isPixel _ w)))) | (apply kCallB; (first | exact aBlt | exact aLenR)))) | (apply kOLoad; (first | exact aLdF | exact aLdR)) | exact ov_fieldAddr rfl | (apply kOIdx; (first | exact aIdx)) | exact aRest | exact aNew | exact (ov_field1 (ft := 37) rfl rfl rfl rfl))) | (refine kN ?_; (first | (refine kCall ?_; (first | (refine kWFn 207 ?_; (refine s_callF (fun u H => OInts 3 u (List.replicate (p * q).toNat r) H) rfl (fun w hw => c_repeat _ r (p * q) w (OInts.reads (OInts.whole 3 _ [r] (Nat.le_of_ble_eq_true rfl)) (hfA hw)) (by omega)) rfl (fun u H hu => ?_); have f4 := hu.form; obtain ⟨ga, gc, rfl⟩ := f4)) | apply s_step)) | (refine kStore ?_; (first | refine s_store1 _ rfl rfl gpA rfl (by rfl) ?_ | refine s_storeS _ rfl rfl gpA rfl rfl (by rfl) ?_ | refine s_storeS _ rfl rfl gpA rfl (ones_img oiA) (by rfl) ?_)) | refine s_boxS rfl rfl (fun b hb => ?_) | refine s_allocS rfl (fun b hb => ?_) | refine s_box1 rfl rfl rfl (fun b hb => ?_) | refine s_alloc1 rfl rfl (fun b hb => ?_) | refine s_buildSlice0 rfl (fun b hb => ?_) | refine s_buildSlice rfl rfl rfl rfl rfl (fun b hb => ?_) | apply s_step)) | (refine kG ?_; (first | refine s_gyes rfl rfl rfl ?_ | refine s_gno rfl rfl rfl rfl rfl ?_ | ((first | refine s_split_d rfl rfl (fun h => ?_) (fun h => ?_) | refine s_split_n rfl rfl (fun h => ?_) (fun h => ?_)) <;> (try (first | contradiction | (exfalso; omega)))) | refine s_split_nb rfl rfl (fun h => ?_) (fun h => ?_) | refine s_split rfl rfl (fun h => ?_) (fun h => ?_))) | refine l_then ?_ | (refine kC ?_; (first | refine c_seq ?_ | refine c_regionN rfl ?_ | refine c_ret ?_ | (refine kCond ?_; (first | refine c_cond_t rfl ?_ | refine c_cond_f rfl ?_ | ((first | refine c_cond_d rfl (fun h => ?_) (fun h => ?_) | refine c_cond_n rfl (fun h => ?_) (fun h => ?_)) <;> (try (first | contradiction | (exfalso; omega)))) | refine c_cond_nb rfl (fun h => ?_) (fun h => ?_) | refine c_cond rfl (fun h => ?_) (fun h => ?_))) | refine c_block ?_ | refine c_skip ?_ | refine c_exit ?_ | refine c_regionQN rfl rfl (by decide +kernel) ?_)) | apply s_stepQ | (refine kQG ?_; (first | refine s_gyesQ rfl rfl rfl ?_ | refine s_gnoQ rfl rfl rfl rfl rfl ?_ | ((first | refine s_splitQ_d rfl rfl (fun h => ?_) (fun h => ?_) | refine s_splitQ_n rfl rfl (fun h => ?_) (fun h => ?_)) <;> (try (first | contradiction | (exfalso; omega)))) | refine s_splitQ_nb rfl rfl (fun h => ?_) (fun h => ?_) | refine s_splitQ rfl rfl (fun h => ?_) (fun h => ?_))) | refine lQ_then ?_ | refine lQ_ends ?_ | (refine kE ?_; (first | refine e_then_r ?_ | refine e_block_r ?_ | refine e_then_n ?_ | refine e_then_x ?_ | refine e_block_n ?_ | refine e_block_x ?_ | refine e_block_y rfl ?_)) | refine l_ends ?_)
  all_goals (refine s_leaveSF rfl rfl rfl fwA (fun w hw => ⟨_, _, rfl, ⟨_, rfl, hu⟩, hw.toFresh (H := H) gpA⟩))
end Go.Proofs.Ytfmjeakcfmmkfaa
/-
  The program's grids: sixteen rows as numbers. Rules for their bits.
-/
set_option linter.unusedVariables false
namespace Go.Proofs.Ytfmjeakcfmmkfaa
open Go Sx
attribute [local irreducible] Exit.then Exit.inBlock bodyPost
def rowV (g : Grid) (y : Nat) : Value := .int .i64 (Sx.bits (g y) 16 : Nat)
abbrev gcells (g : Grid) : List Value := [rowV g 0, rowV g 1, rowV g 2, rowV g 3, rowV g 4, rowV g 5, rowV g 6, rowV g 7, rowV g 8, rowV g 9, rowV g 10, rowV g 11, rowV g 12, rowV g 13, rowV g 14, rowV g 15]
abbrev gval (g : Grid) : Value := .agg #[rowV g 0, rowV g 1, rowV g 2, rowV g 3, rowV g 4, rowV g 5, rowV g 6, rowV g 7, rowV g 8, rowV g 9, rowV g 10, rowV g 11, rowV g 12, rowV g 13, rowV g 14, rowV g 15]
def gl (g : Grid) : List Value := (List.range 16).map (rowV g)
theorem gl_eq (g : Grid) : gl g = gcells g := rfl
theorem gl_get (g : Grid) {y : Nat} (h : y < 16) : (gl g)[y]? = some (rowV g y) := by simp [gl, h]
theorem rowV_congr {g h : Grid} (e : g.eqv h) {y : Nat} (hy : y < 16) : rowV g y = rowV h y := by
  unfold rowV; rw [bits_congr 16 (fun i hi => e y i hy hi)]
theorem gl_congr {g h : Grid} (e : g.eqv h) : gl g = gl h := List.map_congr_left (fun y hy => rowV_congr e (List.mem_range.1 hy))
theorem gval_congr {g h : Grid} (e : g.eqv h) : gval g = gval h := by
  have := gl_congr e
  rw [gl_eq, gl_eq] at this
  show Value.agg (gcells g).toArray = Value.agg (gcells h).toArray
  rw [this]
def Grid.row (g : Grid) (y : Nat) (f : Nat → Bool) : Grid := fun b => if b = y then f else g b
theorem gl_set (g : Grid) {y : Nat} (hy : y < 16) (f : Nat → Bool) : (gl g).set y (.int .i64 (Sx.bits f 16 : Nat)) = gl (Grid.row g y f) := by
  apply List.ext_getElem?
  intro q
  rw [List.getElem?_set]
  by_cases hq : q < 16
  · rw [gl_get g hq, gl_get _ hq]
    unfold rowV Grid.row
    by_cases e : y = q
    · subst e; simp [gl, hy]
    · have e' : ¬ q = y := fun hh => e hh.symm
      simp [e, e']
  · have h1 : (gl g).length ≤ q := by simp [gl]; omega
    have h2 : (gl (Grid.row g y f)).length ≤ q := by simp [gl]; omega
    rw [List.getElem?_eq_none h1, List.getElem?_eq_none h2, if_neg (by omega)]
theorem none_zero : gcells Grid.none = List.replicate 16 (Value.int .i64 0) := rfl
theorem bits16 (f : Nat → Bool) : 0 ≤ ((Sx.bits f 16 : Nat) : Int) ∧ ((Sx.bits f 16 : Nat) : Int) ≤ 65535 := by
  have := bits_lt f 16
  omega
section
variable {P : Program} {n : Nat} {lo : SMut} {s : World} {E : SEnv} {L : SHeap} {d : Option Tmp} {ty : TypeId} {pos : String} {after : Array Edge} {g0 : Option (Nat × Bool)} {x y : Operand} {xt yt : TypeId}
/-- an array of zeros -/
theorem ov_buildA0 {t e : TypeId} {len : Nat} {zl : List Value} {ze : Value} {k by_ ke be : Nat} [hu : SUnd P t (.array len e)] [hi : SInf P t (.agg zl.toArray) k by_] [he : SInf P e ze ke be] :
    SOpV P n lo s E L ⟨d, .build t #[], ty, pos, after, g0⟩ (.agg zl.toArray) :=
  SOpV.of_run fun a ha w hw => by
    obtain ⟨i1, h1, h2, h3, h4⟩ := hi.out
    obtain ⟨i2, q1, q2, q3, q4⟩ := he.out
    have hb : P.built t ([] : List (Nat × Value)) = some zl.toArray := by
      unfold Program.built
      simp only [h1, hu.h, h2, q1]
      rfl
    have := run_build w t #[] zl.toArray hb
    simp [execOp, this]
/-- a row of a grid in memory -/
theorem ov_ldG (g : Grid) {t : TypeId} {b i j : Nat} {td : TypeDesc} {T : TypeId} [hu : SUnd P t td] (hx : sval E x = some (.pointer (some ⟨b, 0 + j * 1, none⟩))) (hr : sisRow td = false) (hL : getL L i = some [(b, srow (gl g) T)]) (hj : j < 16) :
    SOpV P n lo s E L ⟨d, .load t x, ty, pos, after, g0⟩ (.int .i64 (Sx.bits (g j) 16 : Nat)) :=
  ov_load hx hr (getL_flat hL (List.mem_singleton.2 rfl)) (by rw [snth_eq, Nat.zero_add, Nat.mul_one]; exact gl_get g hj)
theorem ov_orG {f h : Nat → Bool} (hx : sval E x = some (.int .i64 (Sx.bits f 16 : Nat))) (hy : sval E y = some (.int .i64 (Sx.bits h 16 : Nat))) :
    SOpV P n lo s E L ⟨d, .binOp .or xt x y yt, ty, pos, after, g0⟩ (.int .i64 (Sx.bits (fun i => f i || h i) 16 : Nat)) := by
  have h1 := bits16 f
  have h2 := bits16 h
  have := ov_or (P := P) (n := n) (lo := lo) (s := s) (L := L) (d := d) (ty := ty) (pos := pos) (after := after) (g := g0) (xt := xt) (yt := yt) hx hy (by omega) (by omega)
  rw [Int.toNat_natCast, Int.toNat_natCast, bits_or] at this
  exact this
theorem ov_andG {f h : Nat → Bool} (hx : sval E x = some (.int .i64 (Sx.bits f 16 : Nat))) (hy : sval E y = some (.int .i64 (Sx.bits h 16 : Nat))) :
    SOpV P n lo s E L ⟨d, .binOp .and xt x y yt, ty, pos, after, g0⟩ (.int .i64 (Sx.bits (fun i => f i && h i) 16 : Nat)) := by
  have h1 := bits16 f
  have h2 := bits16 h
  have := ov_and (P := P) (n := n) (lo := lo) (s := s) (L := L) (d := d) (ty := ty) (pos := pos) (after := after) (g := g0) (xt := xt) (yt := yt) hx hy (by omega) (by omega)
  rw [Int.toNat_natCast, Int.toNat_natCast, bits_and] at this
  exact this
/-- one shifted left -/
theorem ov_bit {kj : IntKind} {j : Int} (hx : sval E x = some (.int .i64 1)) (hy : sval E y = some (.int kj j)) (hj : 0 ≤ j ∧ j ≤ 16) :
    SOpV P n lo s E L ⟨d, .binOp .shl xt x y yt, ty, pos, after, g0⟩ (.int .i64 ((2 ^ j.toNat : Nat) : Int)) := by
  have hp : (2 : Nat) ^ j.toNat ≤ 2 ^ 16 := Nat.pow_le_pow_right (by omega) (by omega)
  have e : (1 : Int) * 2 ^ j.toNat = ((2 ^ j.toNat : Nat) : Int) := by push_cast; omega
  have hm : ∀ m : Nat, m ≤ 2 ^ 16 → -9223372036854775808 ≤ (m : Int) ∧ (m : Int) ≤ 9223372036854775807 := fun m h => by omega
  have := ov_shl (P := P) (n := n) (lo := lo) (s := s) (L := L) (d := d) (ty := ty) (pos := pos) (after := after) (g := g0) (xt := xt) (yt := yt) hx hy (by omega) (by rw [e]; exact hm _ hp)
  rw [e] at this
  exact this
/-- is this bit there -/
theorem ov_andBit {f : Nat → Bool} {j : Nat} (hx : sval E x = some (.int .i64 (Sx.bits f 16 : Nat))) (hy : sval E y = some (.int .i64 ((2 ^ j : Nat) : Int))) (hj : j < 16) :
    SOpV P n lo s E L ⟨d, .binOp .and xt x y yt, ty, pos, after, g0⟩ (.int .i64 (if f j = true then ((2 ^ j : Nat) : Int) else 0)) := by
  have h1 := bits16 f
  have hp : (2 : Nat) ^ j ≤ 2 ^ 16 := Nat.pow_le_pow_right (by omega) (by omega)
  have hm : ∀ m : Nat, m ≤ 2 ^ 16 → 0 ≤ (m : Int) ∧ (m : Int) ≤ 9223372036854775807 := fun m h => by omega
  have := ov_and (P := P) (n := n) (lo := lo) (s := s) (L := L) (d := d) (ty := ty) (pos := pos) (after := after) (g := g0) (xt := xt) (yt := yt) hx hy (by omega) (hm _ hp)
  rw [Int.toNat_natCast, Int.toNat_natCast, bits_and_bit f hj] at this
  split at this
  · rename_i h; rw [if_pos h]; exact this
  · rename_i h; rw [if_neg h]; exact this
end
theorem bit_ne {p : Bool} {j : Nat} : (if p = true then ((2 ^ j : Nat) : Int) else 0) ≠ 0 ↔ p = true := by
  have h2 : 0 < 2 ^ j := Nat.pow_pos (by omega)
  cases p
  · simp
  · have hm : ∀ m : Nat, 0 < m → (m : Int) ≠ 0 := fun m h => by omega
    rw [if_pos rfl]
    exact ⟨fun _ => rfl, fun _ => hm _ h2⟩
end Go.Proofs.Ytfmjeakcfmmkfaa
/-
  The plain functions, continued: a rectangle filled row by row; one surface painted, as the program and as the reference do it. No program in sight.
-/
set_option linter.unusedVariables false
namespace Sx
/-- a rectangle is filled up to row j, and in that row up to place i -/
def boxTo (r : DRect) (f old : Int → Int → Int) (j i : Nat) (x y : Int) : Int :=
  if (r.X ≤ x ∧ x < r.X + r.W ∧ r.Y ≤ y) ∧ (y < r.Y + j ∨ (y = r.Y + j ∧ x < r.X + i)) then f x y else old x y
theorem boxTo_zero (r : DRect) (f old : Int → Int → Int) : boxTo r f old 0 0 = old := by
  funext x y; unfold boxTo; rw [if_neg (by omega)]
theorem boxTo_here (r : DRect) (f old : Int → Int → Int) (j i : Nat) : boxTo r f old j i (r.X + i) (r.Y + j) = old (r.X + i) (r.Y + j) := by
  unfold boxTo; rw [if_neg (by omega)]
theorem boxTo_next {r : DRect} {f old : Int → Int → Int} {j i : Nat} (hi : (i : Int) < r.W) : boxTo r f old j (i + 1) = fun x y => if x = r.X + i ∧ y = r.Y + j then f (r.X + i) (r.Y + j) else boxTo r f old j i x y := by
  funext x y
  by_cases e : x = r.X + i ∧ y = r.Y + j
  · obtain ⟨rfl, rfl⟩ := e
    rw [if_pos ⟨rfl, rfl⟩]
    unfold boxTo; rw [if_pos (by omega)]
  · rw [if_neg e]
    unfold boxTo
    by_cases e2 : (r.X ≤ x ∧ x < r.X + r.W ∧ r.Y ≤ y) ∧ (y < r.Y + j ∨ (y = r.Y + j ∧ x < r.X + i))
    · rw [if_pos e2, if_pos (by omega)]
    · rw [if_neg e2, if_neg (by omega)]
theorem boxTo_row {r : DRect} {f old : Int → Int → Int} {j i : Nat} (hi : r.W ≤ (i : Int)) : boxTo r f old j i = boxTo r f old (j + 1) 0 := by
  funext x y
  unfold boxTo
  by_cases e2 : (r.X ≤ x ∧ x < r.X + r.W ∧ r.Y ≤ y) ∧ (y < r.Y + j ∨ (y = r.Y + j ∧ x < r.X + i))
  · rw [if_pos e2, if_pos (by omega)]
  · rw [if_neg e2, if_neg (by omega)]
theorem boxTo_all {r : DRect} {f old : Int → Int → Int} {j : Nat} (hj : (j : Int) = r.H) (x y : Int) : boxTo r f old j 0 x y = if r.X ≤ x ∧ x < r.X + r.W ∧ r.Y ≤ y ∧ y < r.Y + r.H then f x y else old x y := by
  unfold boxTo
  by_cases e : r.X ≤ x ∧ x < r.X + r.W ∧ r.Y ≤ y ∧ y < r.Y + r.H
  · rw [if_pos e, if_pos (by omega)]
  · rw [if_neg e, if_neg (by omega)]
/-- nothing to fill -/
theorem boxTo_none {r : DRect} {f old : Int → Int → Int} {j : Nat} (h : r.W ≤ 0) : boxTo r f old j 0 = old := by
  funext x y; unfold boxTo; rw [if_neg (by omega)]
theorem has_iff {r : DRect} (h : r.ok) (x y : Int) : r.has x y ↔ r.X ≤ x ∧ x < r.X + r.W ∧ r.Y ≤ y ∧ y < r.Y + r.H := by
  unfold DRect.has; constructor
  · rintro ⟨_, h2⟩; omega
  · intro h2; exact ⟨h, by omega⟩
/-- a whole surface over an image of w by h pixels, as the reference paints it -/
theorem box_layer {s : DSurf} {w h : Int} (hw : 1 ≤ w ∧ w ≤ 16) (hh : 1 ≤ h ∧ h ≤ 16) (old : Int → Int → Int) {j : Nat} (hj : (j : Int) = ((surfRect s).inter ⟨0, 0, w, h⟩).H) {x y : Int} (hx : 0 ≤ x ∧ x < w) (hy : 0 ≤ y ∧ y < h) :
    boxTo ((surfRect s).inter ⟨0, 0, w, h⟩) (fun a b => over (pixOf s a b) (old a b)) old j 0 x y = layer s x y (old x y) := by
  have hb : (⟨0, 0, w, h⟩ : DRect).ok := by unfold DRect.ok; dsimp only; omega
  have hi := (DRect.inter_ok (surfRect_ok s) hb).1
  have h1 := inter_has (surfRect_ok s) hb x y
  have h2 := has_iff hi x y
  have h3 := has_iff hb x y
  dsimp only at h3
  rw [boxTo_all hj]
  unfold layer
  by_cases e : (surfRect s).has x y
  · rw [if_pos e, if_pos (h2.1 (h1.2 ⟨e, h3.2 (by omega)⟩))]
  · rw [if_neg e, if_neg (fun hh => e (h1.1 (h2.2 hh)).1)]
/-- a whole surface over an image, as the program paints it -/
theorem one_layer {s : DSurf} (hs : s.ok) (hv : s.Visible = true) {g : Grid} (old : Int → Int → Int) {x y : Int} (hg : inG g x y = true) : oneTo s g old ((surfSize s).1 * (surfSize s).2).toNat x y = layer s x y (old x y) := by
  rw [oneTo_all hs]
  unfold layer
  rw [surfRect_vis hs hv, hg]
  by_cases e : (rawRect s).has x y
  · rw [if_pos ⟨e, rfl⟩, if_pos e]
  · rw [if_neg (fun hh => e hh.1), if_neg e]
theorem hid_layer {s : DSurf} (hv : ¬ s.Visible = true) (x y b : Int) : layer s x y b = b := by
  unfold layer; rw [surfRect_hid hv, if_neg (zero_has x y)]
/-- how many points the program paints of the first k pixels -/
def hitN (s : DSurf) (g : Grid) (w h : Int) : Nat → Int
  | 0 => 0
  | k + 1 => hitN s g w h k + (if ((0 ≤ kx s k ∧ kx s k ≤ w - 1) ∧ (0 ≤ ky s k ∧ ky s k ≤ h - 1)) ∧ inG g (kx s k) (ky s k) = true then 1 else 0)
theorem hitN_bd (s : DSurf) (g : Grid) (w h : Int) : ∀ k : Nat, 0 ≤ hitN s g w h k ∧ hitN s g w h k ≤ k
  | 0 => ⟨Int.le_refl _, Int.le_refl _⟩
  | k + 1 => by have := hitN_bd s g w h k; unfold hitN; split <;> omega
theorem one_miss {s : DSurf} (hs : s.ok) {g : Grid} {old : Int → Int → Int} {w h : Int} (hw : 1 ≤ w) {k : Nat} (hk : k < ((surfSize s).1 * (surfSize s).2).toNat)
    (hn : ¬ (((0 ≤ kx s k ∧ kx s k ≤ w - 1) ∧ (0 ≤ ky s k ∧ ky s k ≤ h - 1)) ∧ inG g (kx s k) (ky s k) = true)) :
    mapTo (oneTo s g old (k + 1)) w (w * h).toNat = mapTo (oneTo s g old k) w (w * h).toNat ∧ hitN s g w h (k + 1) = hitN s g w h k := by
  refine ⟨mapTo_congr hw (fun x y h1 h2 h3 h4 => oneTo_miss hs g old hk x y (fun hh => hn ?_)), by unfold hitN; rw [if_neg hn, Int.add_zero]; cases k <;> rfl⟩
  obtain ⟨rfl, rfl, hg⟩ := hh
  exact ⟨⟨⟨h1, by omega⟩, h3, by omega⟩, hg⟩
theorem one_hit {s : DSurf} (hs : s.ok) {g : Grid} {old : Int → Int → Int} {w h : Int} {k : Nat} (hk : k < ((surfSize s).1 * (surfSize s).2).toNat)
    (hx : 0 ≤ kx s k ∧ kx s k ≤ w - 1) (hy : 0 ≤ ky s k ∧ ky s k ≤ h - 1) (hg : inG g (kx s k) (ky s k) = true) :
    (mapTo (oneTo s g old k) w (w * h).toNat).set (ky s k * w + kx s k).toNat (over ((pictureOf s).data.getD k 0) ((mapTo (oneTo s g old k) w (w * h).toNat).getD (ky s k * w + kx s k).toNat 0)) = mapTo (oneTo s g old (k + 1)) w (w * h).toNat
    ∧ hitN s g w h k + 1 = hitN s g w h (k + 1) := by
  constructor
  · rw [mapTo_at (oneTo s g old k) (w := w) (h := h) ⟨hx.1, by omega⟩ ⟨hy.1, by omega⟩, mapTo_set (oneTo s g old k) (w := w) (h := h) ⟨hx.1, by omega⟩ ⟨hy.1, by omega⟩]
    congr 1
    funext a b
    rw [oneTo_hit hs g old hk hg a b]
  · conv => rhs; unfold hitN
    rw [if_pos ⟨⟨hx, hy⟩, hg⟩]
theorem newPaint (s : DScene) : mapTo (paintTo s 0) s.W (s.W * s.H).toNat = List.replicate (s.W * s.H).toNat s.Back := by
  apply List.ext_getElem?
  intro q
  rw [List.getElem?_replicate]
  unfold mapTo
  rw [List.getElem?_map]
  by_cases e : q < (s.W * s.H).toNat
  · rw [List.getElem?_range e, if_pos e]; rfl
  · rw [List.getElem?_eq_none (by rw [List.length_range]; omega), if_neg e]; rfl
theorem screen_in {w h x y : Int} (hw : 1 ≤ w ∧ w ≤ 16) (hh : 1 ≤ h ∧ h ≤ 16) (hx : 0 ≤ x ∧ x < w) (hy : 0 ≤ y ∧ y < h) : inG (rectG ⟨0, 0, w, h⟩) x y = true := by
  unfold inG rectG DRect.holds DRect.has DRect.ok
  exact decide_eq_true (by dsimp only; omega)
theorem painted_step {s : DScene} (h : s.ok) {k : Nat} (hk : k < s.ss.length) (hv : (s.ss.getD k default).Visible = true) :
    mapTo (oneTo (s.ss.getD k default) (rectG ⟨0, 0, s.W, s.H⟩) (paintTo s k) ((surfSize (s.ss.getD k default)).1 * (surfSize (s.ss.getD k default)).2).toNat) s.W (s.W * s.H).toNat = mapTo (paintTo s (k + 1)) s.W (s.W * s.H).toNat :=
  mapTo_congr h.1.1 (fun x y h1 h2 h3 h4 => by rw [one_layer (getD_ok h hk) hv _ (screen_in h.1 h.2.1 ⟨h1, h2⟩ ⟨h3, h4⟩), paintTo_succ hk])
theorem painted_skip {s : DScene} {k : Nat} (hk : k < s.ss.length) (hv : ¬ (s.ss.getD k default).Visible = true) : paintTo s (k + 1) = paintTo s k := by
  funext x y; rw [paintTo_succ hk, hid_layer hv]
/-- a place of the part of a surface that is on the screen -/
theorem box_at {s : DSurf} (hs : s.ok) {w h : Int} (hw : 1 ≤ w ∧ w ≤ 16) (hh : 1 ≤ h ∧ h ≤ 16) {j i : Nat} (hi : (i : Int) < ((surfRect s).inter ⟨0, 0, w, h⟩).W) (hj : (j : Int) < ((surfRect s).inter ⟨0, 0, w, h⟩).H) :
    (0 ≤ ((surfRect s).inter ⟨0, 0, w, h⟩).X + i ∧ ((surfRect s).inter ⟨0, 0, w, h⟩).X + i < w) ∧ (0 ≤ ((surfRect s).inter ⟨0, 0, w, h⟩).Y + j ∧ ((surfRect s).inter ⟨0, 0, w, h⟩).Y + j < h)
    ∧ (0 ≤ ((surfRect s).inter ⟨0, 0, w, h⟩).X + i - (surfRect s).X ∧ ((surfRect s).inter ⟨0, 0, w, h⟩).X + i - (surfRect s).X < (pictureOf s).W) ∧ (0 ≤ ((surfRect s).inter ⟨0, 0, w, h⟩).Y + j - (surfRect s).Y ∧ ((surfRect s).inter ⟨0, 0, w, h⟩).Y + j - (surfRect s).Y < (pictureOf s).H)
    ∧ (surfRect s).X = s.X ∧ (surfRect s).Y = s.Y := by
  have hb : (⟨0, 0, w, h⟩ : DRect).ok := by unfold DRect.ok; dsimp only; omega
  have ho := (DRect.inter_ok (surfRect_ok s) hb).1
  have h0 : ((surfRect s).inter ⟨0, 0, w, h⟩).has (((surfRect s).inter ⟨0, 0, w, h⟩).X + i) (((surfRect s).inter ⟨0, 0, w, h⟩).Y + j) := ⟨ho, by omega⟩
  have h1 := (inter_has (surfRect_ok s) hb _ _).1 h0
  have h2 := h1.2.2
  dsimp only at h2
  by_cases hv : s.Visible = true
  · rw [surfRect_vis hs hv] at h1 ⊢
    have h3 := h1.1.2
    have hz := surfSize_pic hs
    rw [surfRect_vis hs hv] at h2
    unfold rawRect at h3 ⊢
    dsimp only at h3 ⊢
    unfold rawRect at h2
    rw [hz.1, hz.2]
    omega
  · rw [surfRect_hid hv] at h1; exact absurd h1.1 (zero_has _ _)
theorem pixOf_pix (s : DSurf) (x y : Int) : pixP (pixOf s x y) := by
  by_cases h : s.ok
  · exact (pictureOf_ok h).at_pix _ _
  · unfold pixOf pictureOf
    rw [if_neg h]
    unfold DImg.at DImg.zero pixP
    simp
theorem over_pixP {t b : Int} (ht : pixP t) (hb : pixP b) : pixP (over t b) := by
  have := over_bd ht hb; unfold pixP; omega
theorem boxTo_pix {r : DRect} {f old : Int → Int → Int} (hf : ∀ x y, pixP (f x y)) (ho : ∀ x y, pixP (old x y)) (j i : Nat) (x y : Int) : pixP (boxTo r f old j i x y) := by
  unfold boxTo; split
  · exact hf x y
  · exact ho x y
theorem box_bd {s : DSurf} {w h : Int} (hw : 1 ≤ w ∧ w ≤ 16) (hh : 1 ≤ h ∧ h ≤ 16) : ((-1000 ≤ ((surfRect s).inter ⟨0, 0, w, h⟩).X ∧ ((surfRect s).inter ⟨0, 0, w, h⟩).X ≤ 1000) ∧ (-1000 ≤ ((surfRect s).inter ⟨0, 0, w, h⟩).Y ∧ ((surfRect s).inter ⟨0, 0, w, h⟩).Y ≤ 1000)) ∧ (0 ≤ ((surfRect s).inter ⟨0, 0, w, h⟩).W ∧ ((surfRect s).inter ⟨0, 0, w, h⟩).W ≤ 16) ∧ (0 ≤ ((surfRect s).inter ⟨0, 0, w, h⟩).H ∧ ((surfRect s).inter ⟨0, 0, w, h⟩).H ≤ 16) := by
  have hb : (⟨0, 0, w, h⟩ : DRect).ok := by unfold DRect.ok; dsimp only; omega
  have ho := DRect.inter_ok (surfRect_ok s) hb
  have h1 := ho.1
  have h2 := ho.2.1
  have h3 := ho.2.2.1
  unfold DRect.ok at h1
  dsimp only at h2 h3
  omega
theorem box_step {s : DSurf} (hs : s.ok) {w h : Int} (hw : 1 ≤ w ∧ w ≤ 16) (hh : 1 ≤ h ∧ h ≤ 16) (old : Int → Int → Int) {j i : Nat} (hi : (i : Int) < ((surfRect s).inter ⟨0, 0, w, h⟩).W) (hj : (j : Int) < ((surfRect s).inter ⟨0, 0, w, h⟩).H) :
    (mapTo (boxTo ((surfRect s).inter ⟨0, 0, w, h⟩) (fun a c => over (pixOf s a c) (old a c)) old j i) w (w * h).toNat).set ((((surfRect s).inter ⟨0, 0, w, h⟩).Y + j) * w + (((surfRect s).inter ⟨0, 0, w, h⟩).X + i)).toNat (over ((pictureOf s).data.getD ((((surfRect s).inter ⟨0, 0, w, h⟩).Y + j - (surfRect s).Y) * (pictureOf s).W + (((surfRect s).inter ⟨0, 0, w, h⟩).X + i) - (surfRect s).X).toNat 0) ((mapTo (boxTo ((surfRect s).inter ⟨0, 0, w, h⟩) (fun a c => over (pixOf s a c) (old a c)) old j i) w (w * h).toNat).getD ((((surfRect s).inter ⟨0, 0, w, h⟩).Y + j) * w + (((surfRect s).inter ⟨0, 0, w, h⟩).X + i)).toNat 0))
    = mapTo (boxTo ((surfRect s).inter ⟨0, 0, w, h⟩) (fun a c => over (pixOf s a c) (old a c)) old j (i + 1)) w (w * h).toNat := by
  have hb := box_at hs hw hh hi hj
  rw [mapTo_at _ hb.1 hb.2.1, boxTo_here, mapTo_set _ hb.1 hb.2.1, boxTo_next hi]
  have e : (((surfRect s).inter ⟨0, 0, w, h⟩).Y + j - (surfRect s).Y) * (pictureOf s).W + (((surfRect s).inter ⟨0, 0, w, h⟩).X + i) - (surfRect s).X = (((surfRect s).inter ⟨0, 0, w, h⟩).Y + j - s.Y) * (pictureOf s).W + (((surfRect s).inter ⟨0, 0, w, h⟩).X + i - s.X) := by
    rw [hb.2.2.2.2.1, hb.2.2.2.2.2]; omega
  rw [e]
  rfl
theorem box_done {s : DScene} (h : s.ok) {k : Nat} (hk : k < s.ss.length) {j : Nat} (hj : (j : Int) = ((surfRect (s.ss.getD k default)).inter ⟨0, 0, s.W, s.H⟩).H) :
    mapTo (boxTo ((surfRect (s.ss.getD k default)).inter ⟨0, 0, s.W, s.H⟩) (fun a c => over (pixOf (s.ss.getD k default) a c) (paintTo s k a c)) (paintTo s k) j 0) s.W (s.W * s.H).toNat = mapTo (paintTo s (k + 1)) s.W (s.W * s.H).toNat :=
  mapTo_congr h.1.1 (fun x y h1 h2 h3 h4 => by rw [box_layer h.1 h.2.1 (paintTo s k) hj ⟨h1, h2⟩ ⟨h3, h4⟩, paintTo_succ hk])
end Sx
/-
  Contracts: images that are copied; images that a function gives.
-/
set_option linter.unusedVariables false
namespace Go.Proofs.Ytfmjeakcfmmkfaa
open Go Sx
attribute [local irreducible] Exit.then Exit.inBlock bodyPost
theorem c_clone (v : Value) (l : List Int) (w : World) (hv : RInts w v l) (hl : l.length ≤ 1000000000) : SYieldsF Try.prog 182 #[v] (fun u H => OInts 3 u l H) w := by
  have hv' := hv.form
  obtain ⟨a, c, rfl⟩ := hv'
  cases a with
  | none =>
    have h0 : l = [] := by
      obtain ⟨a, c', he, hf⟩ := RRow.form hv
      by_cases hn : 0 < l.length
      · obtain ⟨b, o, rfl⟩ := hf hn; cases he
      · exact List.eq_nil_of_length_eq_zero (by omega)
    (first | apply SYields.mk | apply SYieldsF.mk | skip); refine s_enter Try.func182 rfl Try.ntmps182 rfl ?_
    repeat' (first | exact rfl | (apply kO; (first | exact ov_pure rfl | (apply kOBin; (first | exact aBin)) | (apply kOCall; (first | (apply kCallB; (first | exact aBlt | exact aLenR)))) | (apply kOLoad; (first | exact aLdF | exact aLdR)) | exact ov_fieldAddr rfl | (apply kOIdx; (first | exact aIdx)) | exact aRest | exact aNew | exact (ov_field1 (ft := 37) rfl rfl rfl rfl))) | (refine kN ?_; (first | (refine kStore ?_; (first | refine s_store1 _ rfl rfl gpA rfl (by rfl) ?_ | refine s_storeS _ rfl rfl gpA rfl rfl (by rfl) ?_ | refine s_storeS _ rfl rfl gpA rfl (ones_img oiA) (by rfl) ?_)) | refine s_boxS rfl rfl (fun b hb => ?_) | refine s_allocS rfl (fun b hb => ?_) | refine s_box1 rfl rfl rfl (fun b hb => ?_) | refine s_alloc1 rfl rfl (fun b hb => ?_) | refine s_buildSlice0 rfl (fun b hb => ?_) | refine s_buildSlice rfl rfl rfl rfl rfl (fun b hb => ?_) | apply s_step)) | (refine kG ?_; (first | refine s_gyes rfl rfl rfl ?_ | refine s_gno rfl rfl rfl rfl rfl ?_ | ((first | refine s_split_d rfl rfl (fun h => ?_) (fun h => ?_) | refine s_split_n rfl rfl (fun h => ?_) (fun h => ?_)) <;> (try (first | contradiction | (exfalso; omega)))) | refine s_split_nb rfl rfl (fun h => ?_) (fun h => ?_) | refine s_split rfl rfl (fun h => ?_) (fun h => ?_))) | refine l_then ?_ | (refine kC ?_; (first | refine c_seq ?_ | refine c_regionN rfl ?_ | refine c_ret ?_ | (refine kCond ?_; (first | refine c_cond_t rfl ?_ | refine c_cond_f rfl ?_ | ((first | refine c_cond_d rfl (fun h => ?_) (fun h => ?_) | refine c_cond_n rfl (fun h => ?_) (fun h => ?_)) <;> (try (first | contradiction | (exfalso; omega)))) | refine c_cond_nb rfl (fun h => ?_) (fun h => ?_) | refine c_cond rfl (fun h => ?_) (fun h => ?_))) | refine c_block ?_ | refine c_skip ?_ | refine c_exit ?_ | refine c_regionQN rfl rfl (by decide +kernel) ?_)) | apply s_stepQ | (refine kQG ?_; (first | refine s_gyesQ rfl rfl rfl ?_ | refine s_gnoQ rfl rfl rfl rfl rfl ?_ | ((first | refine s_splitQ_d rfl rfl (fun h => ?_) (fun h => ?_) | refine s_splitQ_n rfl rfl (fun h => ?_) (fun h => ?_)) <;> (try (first | contradiction | (exfalso; omega)))) | refine s_splitQ_nb rfl rfl (fun h => ?_) (fun h => ?_) | refine s_splitQ rfl rfl (fun h => ?_) (fun h => ?_))) | refine lQ_then ?_ | refine lQ_ends ?_ | (refine kE ?_; (first | refine e_then_r ?_ | refine e_block_r ?_ | refine e_then_n ?_ | refine e_then_x ?_ | refine e_block_n ?_ | refine e_block_x ?_ | refine e_block_y rfl ?_)) | refine l_ends ?_)
    all_goals refine s_leave1 rfl rfl (fun w hw => ⟨_, [], rfl, ?_, hw.toFresh0⟩)
    all_goals (rw [h0]; exact OInts.nil _)
  | some A =>
    (first | apply SYields.mk | apply SYieldsF.mk | skip); refine s_enter Try.func182 rfl Try.ntmps182 rfl ?_
    repeat' (first | exact rfl | (apply kO; (first | exact ov_pure rfl | (apply kOBin; (first | exact aBin)) | (apply kOCall; (first | (apply kCallB; (first | exact aBlt | exact aLenR)))) | (apply kOLoad; (first | exact aLdF | exact aLdR)) | exact ov_fieldAddr rfl | (apply kOIdx; (first | exact aIdx)) | exact aRest | exact aNew | exact (ov_field1 (ft := 37) rfl rfl rfl rfl))) | (refine kN ?_; (first | (refine kCall ?_; (first | (refine kWApp ?_; (refine s_append 0 (ys := ivals l) (m := l.length) rfl rfl (OVec.empty 1 3 _) rfl rfl (by decide) (by simp [ivals]) (oneCells_ivals l) (fun w hw => ⟨_, _, rfl, RInts.src (hv.keep (hw.cells rfl))⟩) (by omega) (by omega) rfl (fun v' H' hv' => ?_))) | apply s_step)) | (refine kStore ?_; (first | refine s_store1 _ rfl rfl gpA rfl (by rfl) ?_ | refine s_storeS _ rfl rfl gpA rfl rfl (by rfl) ?_ | refine s_storeS _ rfl rfl gpA rfl (ones_img oiA) (by rfl) ?_)) | refine s_boxS rfl rfl (fun b hb => ?_) | refine s_allocS rfl (fun b hb => ?_) | refine s_box1 rfl rfl rfl (fun b hb => ?_) | refine s_alloc1 rfl rfl (fun b hb => ?_) | refine s_buildSlice0 rfl (fun b hb => ?_) | refine s_buildSlice rfl rfl rfl rfl rfl (fun b hb => ?_) | apply s_step)) | (refine kG ?_; (first | refine s_gyes rfl rfl rfl ?_ | refine s_gno rfl rfl rfl rfl rfl ?_ | ((first | refine s_split_d rfl rfl (fun h => ?_) (fun h => ?_) | refine s_split_n rfl rfl (fun h => ?_) (fun h => ?_)) <;> (try (first | contradiction | (exfalso; omega)))) | refine s_split_nb rfl rfl (fun h => ?_) (fun h => ?_) | refine s_split rfl rfl (fun h => ?_) (fun h => ?_))) | refine l_then ?_ | (refine kC ?_; (first | refine c_seq ?_ | refine c_regionN rfl ?_ | refine c_ret ?_ | (refine kCond ?_; (first | refine c_cond_t rfl ?_ | refine c_cond_f rfl ?_ | ((first | refine c_cond_d rfl (fun h => ?_) (fun h => ?_) | refine c_cond_n rfl (fun h => ?_) (fun h => ?_)) <;> (try (first | contradiction | (exfalso; omega)))) | refine c_cond_nb rfl (fun h => ?_) (fun h => ?_) | refine c_cond rfl (fun h => ?_) (fun h => ?_))) | refine c_block ?_ | refine c_skip ?_ | refine c_exit ?_ | refine c_regionQN rfl rfl (by decide +kernel) ?_)) | apply s_stepQ | (refine kQG ?_; (first | refine s_gyesQ rfl rfl rfl ?_ | refine s_gnoQ rfl rfl rfl rfl rfl ?_ | ((first | refine s_splitQ_d rfl rfl (fun h => ?_) (fun h => ?_) | refine s_splitQ_n rfl rfl (fun h => ?_) (fun h => ?_)) <;> (try (first | contradiction | (exfalso; omega)))) | refine s_splitQ_nb rfl rfl (fun h => ?_) (fun h => ?_) | refine s_splitQ rfl rfl (fun h => ?_) (fun h => ?_))) | refine lQ_then ?_ | refine lQ_ends ?_ | (refine kE ?_; (first | refine e_then_r ?_ | refine e_block_r ?_ | refine e_then_n ?_ | refine e_then_x ?_ | refine e_block_n ?_ | refine e_block_x ?_ | refine e_block_y rfl ?_)) | refine l_ends ?_)
    all_goals refine s_leave1 rfl rfl (fun w hw => ⟨_, _, rfl, ?_, hw.toFresh (i := 0) rfl⟩)
    all_goals simpa [OInts] using hv'
theorem c_copyImage (i : DImg) (e : Value) (w : World) (hv : RInts w e i.data) (hl : i.data.length ≤ 1000000000) : SYieldsF Try.prog 114 #[vImg i e] (fun u H => OImg u i H) w := by
  (first | apply SYields.mk | apply SYieldsF.mk | skip); refine s_enter Try.func114 rfl Try.ntmps114 rfl ?_
  repeat' (first | exact rfl | (apply kO; (first | exact ov_pure rfl | (apply kOBin; (first | exact aBin)) | (apply kOCall; (first | (apply kCallB; (first | exact aBlt | exact aLenR)))) | (apply kOLoad; (first | exact aLdF | exact aLdR)) | exact ov_fieldAddr rfl | (apply kOIdx; (first | exact aIdx)) | exact aRest | exact aNew | exact (ov_field1 (ft := 37) rfl rfl rfl rfl))) | (refine kN ?_; (first | (refine kCall ?_; (first | (refine kWFunc ?_; (refine s_callF (fun u H => OInts 3 u i.data H) rfl (fun w hw => c_clone _ _ w (riA hw) hl) rfl (fun u H hu => ?_); have f1 := hu.form; obtain ⟨_, _, rfl⟩ := f1)) | apply s_step)) | (refine kStore ?_; (first | refine s_store1 _ rfl rfl gpA rfl (by rfl) ?_ | refine s_storeS _ rfl rfl gpA rfl rfl (by rfl) ?_ | refine s_storeS _ rfl rfl gpA rfl (ones_img oiA) (by rfl) ?_)) | refine s_boxS rfl rfl (fun b hb => ?_) | refine s_allocS rfl (fun b hb => ?_) | refine s_box1 rfl rfl rfl (fun b hb => ?_) | refine s_alloc1 rfl rfl (fun b hb => ?_) | refine s_buildSlice0 rfl (fun b hb => ?_) | refine s_buildSlice rfl rfl rfl rfl rfl (fun b hb => ?_) | apply s_step)) | (refine kG ?_; (first | refine s_gyes rfl rfl rfl ?_ | refine s_gno rfl rfl rfl rfl rfl ?_ | ((first | refine s_split_d rfl rfl (fun h => ?_) (fun h => ?_) | refine s_split_n rfl rfl (fun h => ?_) (fun h => ?_)) <;> (try (first | contradiction | (exfalso; omega)))) | refine s_split_nb rfl rfl (fun h => ?_) (fun h => ?_) | refine s_split rfl rfl (fun h => ?_) (fun h => ?_))) | (refine kS ?_; (first | refine h_exec rfl ?_ | refine h_take_nil rfl rfl rfl ?_ | refine h_take_pick rfl rfl rfl ?_ | refine h_nil ?_ | refine h_alt ?_ ?_ | apply h_take)) | (refine kBack ?_; (first | refine h_back_last rfl ?_ | refine h_backN rfl subA ?_)) | refine l_then ?_ | (refine kC ?_; (first | (refine kReg 1 ?_; refine c_regionSN (SPlan.take 0 (SPlan.take 1 (SPlan.take 2 (SPlan.take 3 (SPlan.take 4 (SPlan.take 5 (SPlan.run 6 (SPlan.take 7 (SPlan.run 8 SPlan.done))))))))) (some 8) rfl rfl (by decide +kernel) ?_) | (refine kReg 1 ?_; refine c_regionSN (SPlan.take 0 (SPlan.take 1 (SPlan.take 2 (SPlan.take 3 (SPlan.take 4 (SPlan.take 5 (SPlan.run 6 (SPlan.take 7 (SPlan.run 8 SPlan.done))))))))) none rfl rfl (by decide +kernel) ?_) | refine c_seq ?_ | refine c_regionN rfl ?_ | refine c_ret ?_ | (refine kCond ?_; (first | refine c_cond_t rfl ?_ | refine c_cond_f rfl ?_ | ((first | refine c_cond_d rfl (fun h => ?_) (fun h => ?_) | refine c_cond_n rfl (fun h => ?_) (fun h => ?_)) <;> (try (first | contradiction | (exfalso; omega)))) | refine c_cond_nb rfl (fun h => ?_) (fun h => ?_) | refine c_cond rfl (fun h => ?_) (fun h => ?_))) | refine c_block ?_ | refine c_skip ?_ | refine c_exit ?_ | refine c_regionQN rfl rfl (by decide +kernel) ?_)) | apply s_stepQ | (refine kQG ?_; (first | refine s_gyesQ rfl rfl rfl ?_ | refine s_gnoQ rfl rfl rfl rfl rfl ?_ | ((first | refine s_splitQ_d rfl rfl (fun h => ?_) (fun h => ?_) | refine s_splitQ_n rfl rfl (fun h => ?_) (fun h => ?_)) <;> (try (first | contradiction | (exfalso; omega)))) | refine s_splitQ_nb rfl rfl (fun h => ?_) (fun h => ?_) | refine s_splitQ rfl rfl (fun h => ?_) (fun h => ?_))) | refine lQ_then ?_ | refine lQ_ends ?_ | (refine kE ?_; (first | refine e_then_r ?_ | refine e_block_r ?_ | refine e_then_n ?_ | refine e_then_x ?_ | refine e_block_n ?_ | refine e_block_x ?_ | refine e_block_y rfl ?_)) | refine l_ends ?_)
  all_goals (refine kE ?_; refine s_leaveSF rfl rfl rfl fwA (fun w hw => ?_))
  exact ⟨_, _, rfl, ⟨_, rfl, by assumption⟩, hw.toFresh (i := 0) rfl⟩
theorem c_l05Copy (i : DImg) (e : Value) (w : World) (hv : RInts w e i.data) (hl : i.data.length ≤ 1000000000) : SYieldsF Try.prog 155 #[vImg i e] (fun u H => OImg u i H) w := by
  have hv' := hv.form
  obtain ⟨a, c, rfl⟩ := hv'
  cases a with
  | none =>
    have h0 : i.data = [] := by
      obtain ⟨a, c', he, hf⟩ := RRow.form hv
      by_cases hn : 0 < i.data.length
      · obtain ⟨b, o, rfl⟩ := hf hn; cases he
      · exact List.eq_nil_of_length_eq_zero (by omega)
    have hc0 : i.data.length = 0 := by rw [h0]; rfl
    rw [show Value.slice none i.data.length c = .slice none 0 c by rw [hc0]]
    (first | apply SYields.mk | apply SYieldsF.mk | skip); refine s_enter Try.func155 rfl Try.ntmps155 rfl ?_
    repeat' (first | exact rfl | (apply kO; (first | exact ov_pure rfl | (apply kOBin; (first | exact aBin)) | (apply kOCall; (first | (apply kCallB; (first | exact aBlt | exact (ov_appendNil rfl rfl (by omega)) | exact aLenR)))) | (apply kOLoad; (first | exact aLdF | exact aLdR)) | exact ov_fieldAddr rfl | (apply kOIdx; (first | exact aIdx)) | exact aRest | exact aNew | exact (ov_field1 (ft := 37) rfl rfl rfl rfl))) | (refine kN ?_; (first | (refine kStore ?_; (first | refine s_store1 _ rfl rfl gpA rfl (by rfl) ?_ | refine s_storeS _ rfl rfl gpA rfl rfl (by rfl) ?_ | refine s_storeS _ rfl rfl gpA rfl (ones_img oiA) (by rfl) ?_)) | refine s_boxS rfl rfl (fun b hb => ?_) | refine s_allocS rfl (fun b hb => ?_) | refine s_box1 rfl rfl rfl (fun b hb => ?_) | refine s_alloc1 rfl rfl (fun b hb => ?_) | refine s_buildSlice0 rfl (fun b hb => ?_) | refine s_buildSlice rfl rfl rfl rfl rfl (fun b hb => ?_) | apply s_step)) | (refine kG ?_; (first | refine s_gyes rfl rfl rfl ?_ | refine s_gno rfl rfl rfl rfl rfl ?_ | ((first | refine s_split_d rfl rfl (fun h => ?_) (fun h => ?_) | refine s_split_n rfl rfl (fun h => ?_) (fun h => ?_)) <;> (try (first | contradiction | (exfalso; omega)))) | refine s_split_nb rfl rfl (fun h => ?_) (fun h => ?_) | refine s_split rfl rfl (fun h => ?_) (fun h => ?_))) | (refine kS ?_; (first | refine h_exec rfl ?_ | refine h_take_nil rfl rfl rfl ?_ | refine h_take_pick rfl rfl rfl ?_ | refine h_nil ?_ | refine h_alt ?_ ?_ | apply h_take)) | (refine kBack ?_; (first | refine h_back_last rfl ?_ | refine h_backN rfl subA ?_)) | refine l_then ?_ | (refine kC ?_; (first | (refine kReg 1 ?_; refine c_regionSN (SPlan.take 0 (SPlan.take 1 (SPlan.take 2 (SPlan.take 3 (SPlan.take 5 (SPlan.take 6 (SPlan.run 4 (SPlan.run 7 (SPlan.take 8 (SPlan.run 9 SPlan.done)))))))))) (some 9) rfl rfl (by decide +kernel) ?_) | (refine kReg 1 ?_; refine c_regionSN (SPlan.take 0 (SPlan.take 1 (SPlan.take 2 (SPlan.take 3 (SPlan.take 5 (SPlan.take 6 (SPlan.run 4 (SPlan.run 7 (SPlan.take 8 (SPlan.run 9 SPlan.done)))))))))) none rfl rfl (by decide +kernel) ?_) | refine c_seq ?_ | refine c_regionN rfl ?_ | refine c_ret ?_ | (refine kCond ?_; (first | refine c_cond_t rfl ?_ | refine c_cond_f rfl ?_ | ((first | refine c_cond_d rfl (fun h => ?_) (fun h => ?_) | refine c_cond_n rfl (fun h => ?_) (fun h => ?_)) <;> (try (first | contradiction | (exfalso; omega)))) | refine c_cond_nb rfl (fun h => ?_) (fun h => ?_) | refine c_cond rfl (fun h => ?_) (fun h => ?_))) | refine c_block ?_ | refine c_skip ?_ | refine c_exit ?_ | refine c_regionQN rfl rfl (by decide +kernel) ?_)) | apply s_stepQ | (refine kQG ?_; (first | refine s_gyesQ rfl rfl rfl ?_ | refine s_gnoQ rfl rfl rfl rfl rfl ?_ | ((first | refine s_splitQ_d rfl rfl (fun h => ?_) (fun h => ?_) | refine s_splitQ_n rfl rfl (fun h => ?_) (fun h => ?_)) <;> (try (first | contradiction | (exfalso; omega)))) | refine s_splitQ_nb rfl rfl (fun h => ?_) (fun h => ?_) | refine s_splitQ rfl rfl (fun h => ?_) (fun h => ?_))) | refine lQ_then ?_ | refine lQ_ends ?_ | (refine kE ?_; (first | refine e_then_r ?_ | refine e_block_r ?_ | refine e_then_n ?_ | refine e_then_x ?_ | refine e_block_n ?_ | refine e_block_x ?_ | refine e_block_y rfl ?_)) | refine l_ends ?_)
    all_goals (refine kE ?_; refine s_leaveSF rfl rfl rfl fwA (fun w hw => ?_))
    all_goals exact ⟨_, _, rfl, ⟨_, rfl, by rw [h0]; exact OVec.empty 1 3 _⟩, hw.toFresh (i := 0) rfl⟩
  | some A =>
    (first | apply SYields.mk | apply SYieldsF.mk | skip); refine s_enter Try.func155 rfl Try.ntmps155 rfl ?_
    repeat' (first | exact rfl | (apply kO; (first | exact ov_pure rfl | (apply kOBin; (first | exact aBin)) | (apply kOCall; (first | (apply kCallB; (first | exact aBlt | exact aLenR)))) | (apply kOLoad; (first | exact aLdF | exact aLdR)) | exact ov_fieldAddr rfl | (apply kOIdx; (first | exact aIdx)) | exact aRest | exact aNew | exact (ov_field1 (ft := 37) rfl rfl rfl rfl))) | (refine kN ?_; (first | (refine kCall ?_; (first | (refine kWApp ?_; (refine s_append 0 (ys := ivals i.data) (m := i.data.length) rfl rfl (OVec.empty 1 3 _) rfl rfl (by decide) (by simp [ivals]) (oneCells_ivals i.data) (fun w hw => ⟨_, _, rfl, RInts.src (hv.keep (hw.cells rfl))⟩) (by omega) (by omega) rfl (fun v' H' hv' => ?_); have f1 := hv'.form; obtain ⟨_, _, rfl⟩ := f1)) | apply s_step)) | (refine kStore ?_; (first | refine s_store1 _ rfl rfl gpA rfl (by rfl) ?_ | refine s_storeS _ rfl rfl gpA rfl rfl (by rfl) ?_ | refine s_storeS _ rfl rfl gpA rfl (ones_img oiA) (by rfl) ?_)) | refine s_boxS rfl rfl (fun b hb => ?_) | refine s_allocS rfl (fun b hb => ?_) | refine s_box1 rfl rfl rfl (fun b hb => ?_) | refine s_alloc1 rfl rfl (fun b hb => ?_) | refine s_buildSlice0 rfl (fun b hb => ?_) | refine s_buildSlice rfl rfl rfl rfl rfl (fun b hb => ?_) | apply s_step)) | (refine kG ?_; (first | refine s_gyes rfl rfl rfl ?_ | refine s_gno rfl rfl rfl rfl rfl ?_ | ((first | refine s_split_d rfl rfl (fun h => ?_) (fun h => ?_) | refine s_split_n rfl rfl (fun h => ?_) (fun h => ?_)) <;> (try (first | contradiction | (exfalso; omega)))) | refine s_split_nb rfl rfl (fun h => ?_) (fun h => ?_) | refine s_split rfl rfl (fun h => ?_) (fun h => ?_))) | (refine kS ?_; (first | refine h_exec rfl ?_ | refine h_take_nil rfl rfl rfl ?_ | refine h_take_pick rfl rfl rfl ?_ | refine h_nil ?_ | refine h_alt ?_ ?_ | apply h_take)) | (refine kBack ?_; (first | refine h_back_last rfl ?_ | refine h_backN rfl subA ?_)) | refine l_then ?_ | (refine kC ?_; (first | (refine kReg 1 ?_; refine c_regionSN (SPlan.take 0 (SPlan.take 1 (SPlan.take 2 (SPlan.take 3 (SPlan.take 5 (SPlan.take 6 (SPlan.run 4 (SPlan.run 7 (SPlan.take 8 (SPlan.run 9 SPlan.done)))))))))) (some 9) rfl rfl (by decide +kernel) ?_) | (refine kReg 1 ?_; refine c_regionSN (SPlan.take 0 (SPlan.take 1 (SPlan.take 2 (SPlan.take 3 (SPlan.take 5 (SPlan.take 6 (SPlan.run 4 (SPlan.run 7 (SPlan.take 8 (SPlan.run 9 SPlan.done)))))))))) none rfl rfl (by decide +kernel) ?_) | refine c_seq ?_ | refine c_regionN rfl ?_ | refine c_ret ?_ | (refine kCond ?_; (first | refine c_cond_t rfl ?_ | refine c_cond_f rfl ?_ | ((first | refine c_cond_d rfl (fun h => ?_) (fun h => ?_) | refine c_cond_n rfl (fun h => ?_) (fun h => ?_)) <;> (try (first | contradiction | (exfalso; omega)))) | refine c_cond_nb rfl (fun h => ?_) (fun h => ?_) | refine c_cond rfl (fun h => ?_) (fun h => ?_))) | refine c_block ?_ | refine c_skip ?_ | refine c_exit ?_ | refine c_regionQN rfl rfl (by decide +kernel) ?_)) | apply s_stepQ | (refine kQG ?_; (first | refine s_gyesQ rfl rfl rfl ?_ | refine s_gnoQ rfl rfl rfl rfl rfl ?_ | ((first | refine s_splitQ_d rfl rfl (fun h => ?_) (fun h => ?_) | refine s_splitQ_n rfl rfl (fun h => ?_) (fun h => ?_)) <;> (try (first | contradiction | (exfalso; omega)))) | refine s_splitQ_nb rfl rfl (fun h => ?_) (fun h => ?_) | refine s_splitQ rfl rfl (fun h => ?_) (fun h => ?_))) | refine lQ_then ?_ | refine lQ_ends ?_ | (refine kE ?_; (first | refine e_then_r ?_ | refine e_block_r ?_ | refine e_then_n ?_ | refine e_then_x ?_ | refine e_block_n ?_ | refine e_block_x ?_ | refine e_block_y rfl ?_)) | refine l_ends ?_)
    all_goals (refine kE ?_; refine s_leaveSF rfl rfl rfl fwA (fun w hw => ?_))
    all_goals exact ⟨_, _, rfl, ⟨_, rfl, by simpa [OInts] using hv'⟩, hw.toFresh (i := 0) rfl⟩
/-- a function value that answers so, in every later world -/
def Gives (P : Program) (g : FuncId) (cap : List Value) (φ : Int → Int → Int) (w h : Int) (w0 : World) : Prop :=
  ∀ x y : Int, (0 ≤ x ∧ x < w) → (0 ≤ y ∧ y < h) → ∀ w', RowKit.Below w0.heap.size w0 w' → SYields P g (([Value.int .i64 x, Value.int .i64 y] : List Value) ++ cap).toArray (.int .i64 (φ x y)) w'
theorem mapTo_row {φ : Int → Int → Int} {w : Int} (hw : 1 ≤ w) (y x : Nat) (hx : (x : Int) < w) : mapTo φ w (y * w.toNat + x) ++ [φ x y] = mapTo φ w (y * w.toNat + (x + 1)) := by
  have e : ((y * w.toNat + x : Nat) : Int) = (y : Int) * w + x := by push_cast; rw [Int.toNat_of_nonneg (by omega)]
  have h := row_mod (w := w) (x := x) (y := y) (by omega) (by omega)
  rw [← Nat.add_assoc, mapTo_succ, e, h.1, h.2]
theorem c_mapImage (pw ph : Int) (g : FuncId) (cap : List Value) (φ : Int → Int → Int) (W : World) [SCallee Try.prog g] (hw0 : 1 ≤ pw ∧ pw ≤ 16) (hh0 : 1 ≤ ph ∧ ph ≤ 16) (hg : Gives Try.prog g cap φ pw ph W) :
    SYieldsF Try.prog 227 #[.int .i64 pw, .int .i64 ph, .func (.func g) #[] cap.toArray] (fun u H => OImg u ⟨pw, ph, mapTo φ pw (pw * ph).toNat⟩ H) W := by
  have hwh := side_mul (w := pw) (h := ph) ⟨hw0.1, hw0.2, hh0.1, hh0.2⟩
  have hrow : ∀ y : Nat, (y : Int) ≤ ph → y * pw.toNat ≤ 256 := fun y hy => by
    have := Nat.mul_le_mul (show y ≤ 16 by omega) (show pw.toNat ≤ 16 by omega); omega
  (first | apply SYields.mk | apply SYieldsF.mk | skip); refine s_enter Try.func227 rfl Try.ntmps227 rfl ?_
  repeat' (first | exact rfl | (apply kO; (first | exact ov_pure rfl | (apply kOBin; (first | exact aBin)) | (apply kOCall; (first | (apply kCallV; exact (ov_callV rfl rfl (fun w hw => hg _ _ (by omega) (by omega) w hw.below))) | (apply kCallB; (first | exact aBlt | exact aLenR)))) | (apply kOLoad; (first | exact aLdF | exact aLdR)) | exact ov_fieldAddr rfl | (apply kOIdx; (first | exact aIdx)) | exact aRest | exact aNew | exact (ov_field1 (ft := 37) rfl rfl rfl rfl))) | (refine kN ?_; (first | (refine kCall ?_; (first | (refine kWApp ?_; (refine s_appendI _ _ (ys := [_]) rfl rfl (by assumption) gpA gpA rfl rfl (by rw [mapTo_length]; have := hrow j.1 (by omega); omega) (by decide) rfl (fun v' H' hv' => ?_); have f1 := hv'.form; obtain ⟨ua, uc, rfl⟩ := f1)) | apply s_step)) | (refine kStore ?_; (first | refine s_store1 _ rfl rfl gpA rfl (by rfl) ?_ | refine s_storeS _ rfl rfl gpA rfl rfl (by rfl) ?_ | refine s_storeS _ rfl rfl gpA rfl (ones_img oiA) (by rfl) ?_)) | refine s_boxS rfl rfl (fun b hb => ?_) | refine s_allocS rfl (fun b hb => ?_) | refine s_box1 rfl rfl rfl (fun b hb => ?_) | refine s_alloc1 rfl rfl (fun b hb => ?_) | (refine kWMake ?_; (refine s_make1 rfl rfl rfl ⟨by omega, by omega, by omega⟩ (by omega) rfl (fun b hb => ?_))) | refine s_buildSlice0 rfl (fun b hb => ?_) | refine s_buildSlice rfl rfl rfl rfl rfl (fun b hb => ?_) | apply s_step)) | (refine kG ?_; (first | refine s_gyes rfl rfl rfl ?_ | refine s_gno rfl rfl rfl rfl rfl ?_ | ((first | refine s_split_d rfl rfl (fun h => ?_) (fun h => ?_) | refine s_split_n rfl rfl (fun h => ?_) (fun h => ?_)) <;> (try (first | contradiction | (exfalso; omega)))) | refine s_split_nb rfl rfl (fun h => ?_) (fun h => ?_) | refine s_split rfl rfl (fun h => ?_) (fun h => ?_))) | (refine kS ?_; (first | refine h_exec rfl ?_ | refine h_take_nil rfl rfl rfl ?_ | refine h_take_pick rfl rfl rfl ?_ | refine h_nil ?_ | refine h_alt ?_ ?_ | apply h_take)) | (refine kBack ?_; (first | refine h_back_last rfl ?_ | refine h_backN rfl subA ?_)) | refine l_then ?_ | (refine kC ?_; (first | (refine kReg 8 ?_; refine c_regionSubN (SPlan.take 0 (SPlan.take 1 (SPlan.take 2 (SPlan.take 3 (SPlan.take 4 (SPlan.run 5 (SPlan.run 6 (SPlan.run 7 (SPlan.take 8 (SPlan.run 9 SPlan.done)))))))))) (some 9) [true, false, true] rfl rfl rfl (by decide +kernel) ?_) | (refine c_loopV (ι := Nat × Value × SPiece) (fun j => (j.1 : Int) ≤ ph ∧ OInts 3 j.2.1 (mapTo φ pw (j.1 * pw.toNat)) j.2.2) (fun j => [(18, .int .i64 (j.1 : Int))]) (fun j => [[(_, srow [.int .i64 pw, .int .i64 ph, j.2.1] 39)], j.2.2, _]) (fun j => ph.toNat - j.1) (0, _, _) ⟨by dsimp only; omega, by dsimp only; rw [Nat.zero_mul]; exact OInts.made _ _ _ _ (by unfold maxLen; omega)⟩ rfl (fun _ => rfl) ⟨rfl, trivial⟩ (fun w hw => hw) (fun j hj => ?_); obtain ⟨hj1, hj2⟩ := hj) | (refine c_loopV (ι := Nat × Value × SPiece) (fun i => (i.1 : Int) ≤ pw ∧ OInts 3 i.2.1 (mapTo φ pw (j.1 * pw.toNat + i.1)) i.2.2) (fun i => [(22, .int .i64 (i.1 : Int))]) (fun i => [[(_, srow [.int .i64 pw, .int .i64 ph, i.2.1] 39)], i.2.2, _]) (fun i => pw.toNat - i.1) (0, _, _) ⟨by dsimp only; omega, hj2⟩ rfl (fun _ => rfl) ⟨rfl, trivial⟩ (fun w hw => hw) (fun i hi => ?_); obtain ⟨hi1, hi2⟩ := hi) | refine c_seq ?_ | refine c_regionN rfl ?_ | refine c_ret ?_ | (refine kCond ?_; (first | refine c_cond_t rfl ?_ | refine c_cond_f rfl ?_ | ((first | refine c_cond_d rfl (fun h => ?_) (fun h => ?_) | refine c_cond_n rfl (fun h => ?_) (fun h => ?_)) <;> (try (first | contradiction | (exfalso; omega)))) | refine c_cond_nb rfl (fun h => ?_) (fun h => ?_) | refine c_cond rfl (fun h => ?_) (fun h => ?_))) | refine c_block ?_ | refine c_skip ?_ | refine c_exit ?_ | refine c_regionQN rfl rfl (by decide +kernel) ?_)) | apply s_stepQ | (refine kQG ?_; (first | refine s_gyesQ rfl rfl rfl ?_ | refine s_gnoQ rfl rfl rfl rfl rfl ?_ | ((first | refine s_splitQ_d rfl rfl (fun h => ?_) (fun h => ?_) | refine s_splitQ_n rfl rfl (fun h => ?_) (fun h => ?_)) <;> (try (first | contradiction | (exfalso; omega)))) | refine s_splitQ_nb rfl rfl (fun h => ?_) (fun h => ?_) | refine s_splitQ rfl rfl (fun h => ?_) (fun h => ?_))) | refine lQ_then ?_ | refine lQ_ends ?_ | (refine kE ?_; (first | refine e_then_r ?_ | refine e_block_r ?_ | refine e_then_n ?_ | refine e_then_x ?_ | refine e_block_n ?_ | refine e_block_x ?_ | refine e_block_y rfl ?_)) | refine l_ends ?_)
  · refine e_round (i.1 + 1, _, H') ⟨by dsimp only; omega, by dsimp only; rw [← mapTo_row (by omega) _ _ (by omega)]; exact hv'⟩ ⟨rfl, (by repeat' first | exact trivial | refine ⟨rfl, ?_⟩)⟩ (fun w hw => hw.sub (by repeat' first | exact List.nil_sublist _ | exact List.Sublist.slnil | refine List.Sublist.cons_cons _ ?_ | refine List.Sublist.cons _ ?_)) (by dsimp only; omega)
  · refine e_round (j.1 + 1, i.2.1, i.2.2) ⟨by dsimp only; omega, ?_⟩ ⟨rfl, (by repeat' first | exact trivial | refine ⟨rfl, ?_⟩)⟩ (fun w hw => hw) (by dsimp only; omega)
    dsimp only
    rw [Nat.succ_mul, show j.1 * pw.toNat + pw.toNat = j.1 * pw.toNat + i.1 by omega]
    exact hi2
  · have hj : j.1 * pw.toNat = (pw * ph).toNat := by
      have h1 : (j.1 : Int) = ph := by omega
      have h2 : ((j.1 * pw.toNat : Nat) : Int) = pw * ph := by push_cast; rw [h1, Int.toNat_of_nonneg (by omega), Int.mul_comm]
      omega
    rw [hj] at hj2
    refine s_leaveSF rfl rfl rfl fwA (fun w hw => ?_)
    exact ⟨_, _, rfl, ⟨_, rfl, hj2⟩, hw.toFresh (i := 1) rfl⟩
end Go.Proofs.Ytfmjeakcfmmkfaa
/-
  The plain functions, continued: places in pictures that are turned and scaled; fading in place; colors in place. No program in sight.
-/
set_option linter.unusedVariables false
namespace Sx
theorem orient_idx {i : DImg} {o : Int} (h : i.ok) (ho : 0 ≤ o ∧ o ≤ 7) {x y : Int} (hx : 0 ≤ x ∧ x < i.W) (hy : 0 ≤ y ∧ y < i.H) :
    (0 ≤ (orientPoint i.W i.H o x y).2 * (orientSize i.W i.H o).1 ∧ (orientPoint i.W i.H o x y).2 * (orientSize i.W i.H o).1 ≤ 256) ∧ (0 ≤ (orientPoint i.W i.H o x y).1 ∧ (orientPoint i.W i.H o x y).1 ≤ 15) ∧
    (orientPoint i.W i.H o x y).2 * (orientSize i.W i.H o).1 + (orientPoint i.W i.H o x y).1 < i.W * i.H := by
  have hok : orientOk i.W i.H o := ⟨h.1, h.2.1, ho⟩
  have hb := orientPt_bd hok (x := x) (y := y) (by omega) (by omega)
  have h1 := h.1
  have h2 := h.2.1
  unfold orientPoint orientSize
  rw [if_pos ⟨hok, by omega, by omega⟩, if_pos hok]
  by_cases e : o % 2 = 1
  · rw [if_pos e] at hb ⊢
    rw [if_pos e] at hb
    have := place_lt (w := i.H) (h := i.W) (x := (orientPt i.W i.H o x y).1) (y := (orientPt i.W i.H o x y).2) (by omega) (by omega)
    have hm := mul_bd (a := (orientPt i.W i.H o x y).2) (b := i.H) (A := 15) (B := 16) (by omega) (by omega)
    rw [Int.mul_comm i.H i.W] at this
    dsimp only
    omega
  · rw [if_neg e] at hb ⊢
    rw [if_neg e] at hb
    have := place_lt (w := i.W) (h := i.H) (x := (orientPt i.W i.H o x y).1) (y := (orientPt i.W i.H o x y).2) (by omega) (by omega)
    have hm := mul_bd (a := (orientPt i.W i.H o x y).2) (b := i.W) (A := 15) (B := 16) (by omega) (by omega)
    dsimp only
    omega
theorem orientSize_mul {w h o : Int} (hok : orientOk w h o) : (orientSize w h o).1 * (orientSize w h o).2 = w * h := by
  unfold orientSize
  rw [if_pos hok]
  split
  · exact Int.mul_comm ..
  · rfl
theorem orientSize_bd {w h o : Int} (hok : orientOk w h o) : (1 ≤ (orientSize w h o).1 ∧ (orientSize w h o).1 ≤ 16) ∧ (1 ≤ (orientSize w h o).2 ∧ (orientSize w h o).2 ≤ 16) := by
  have hok' := hok
  unfold orientOk at hok'
  unfold orientSize
  rw [if_pos hok]
  split <;> (dsimp only; omega)
theorem ofill_next {i : DImg} {o : Int} (h : i.ok) (ho : 0 ≤ o ∧ o ≤ 7) {k : Nat} (hk : k < i.data.length) :
    (ofill i o k).set ((orientPoint i.W i.H o ((k : Int) % i.W) ((k : Int) / i.W)).2 * (orientSize i.W i.H o).1 + (orientPoint i.W i.H o ((k : Int) % i.W) ((k : Int) / i.W)).1).toNat (i.data.getD k 0) = ofill i o (k + 1) := by
  have hok : orientOk i.W i.H o := ⟨h.1, h.2.1, ho⟩
  have hm := mod_row (w := i.W) (q := k) h.1.1
  have hd := div_lt (w := i.W) (h := i.H) (q := k) h.1.1 (by rw [← h.lenN]; omega)
  unfold orientPoint orientSize
  rw [if_pos ⟨hok, by omega, by omega⟩, if_pos hok]
  conv => rhs; unfold ofill
  dsimp only
  by_cases e : o % 2 = 1
  · simp only [if_pos e]
  · simp only [if_neg e]
theorem kplace {w h : Int} (hw : 1 ≤ w) {x y : Nat} (hx : (x : Int) < w) (hy : (y : Int) < h) : ((y * w.toNat + x : Nat) : Int) % w = x ∧ ((y * w.toNat + x : Nat) : Int) / w = y ∧ y * w.toNat + x < (w * h).toNat ∧ ((y * w.toNat + x : Nat) : Int) = y * w + x := by
  have e : ((y * w.toNat + x : Nat) : Int) = (y : Int) * w + x := by push_cast; rw [Int.toNat_of_nonneg (by omega)]
  have h1 := row_mod (w := w) (x := x) (y := y) (by omega) (by omega)
  have h2 := place_lt (w := w) (h := h) (x := x) (y := y) (by omega) (by omega)
  rw [e]
  exact ⟨h1.1, h1.2, by omega, rfl⟩
theorem ofill_next' {i : DImg} {o : Int} (h : i.ok) (ho : 0 ≤ o ∧ o ≤ 7) {x y : Nat} (hx : (x : Int) < i.W) (hy : (y : Int) < i.H) :
    (ofill i o (y * i.W.toNat + x)).set ((orientPoint i.W i.H o x y).2 * (orientSize i.W i.H o).1 + (orientPoint i.W i.H o x y).1).toNat (i.data.getD ((y : Int) * i.W + x).toNat 0) = ofill i o (y * i.W.toNat + (x + 1)) := by
  have hk := kplace (w := i.W) (h := i.H) h.1.1 hx hy
  have := ofill_next h ho (k := y * i.W.toNat + x) (by rw [h.lenN]; exact hk.2.2.1)
  rw [hk.1, hk.2.1] at this
  rw [← hk.2.2.2, Int.toNat_natCast]
  exact this
theorem rows_end {w h : Int} {y : Nat} (hw : 1 ≤ w) (hy : (y : Int) = h) : y * w.toNat = (w * h).toNat := by
  have h2 : ((y * w.toNat : Nat) : Int) = w * h := by push_cast; rw [hy, Int.toNat_of_nonneg (by omega), Int.mul_comm]
  omega
theorem rows_next {w : Int} {y x : Nat} (hx : (x : Int) = w) : y * w.toNat + x = (y + 1) * w.toNat := by
  rw [Nat.succ_mul]; omega
theorem rows_le {w h : Int} {y : Nat} (hw : 1 ≤ w ∧ w ≤ 16) (hh : 1 ≤ h ∧ h ≤ 16) (hy : (y : Int) ≤ h) : y * w.toNat ≤ 256 := by
  have := Nat.mul_le_mul (show y ≤ 16 by omega) (show w.toNat ≤ 16 by omega); omega
/-! ### chapter 7 -/
theorem scalePoint_in {f t k : Int} (hf : 1 ≤ f ∧ f ≤ 16) (ht : 1 ≤ t ∧ t ≤ 16) (hk : 0 ≤ k ∧ k < t) : scalePoint f t k = k * f / t ∧ 0 ≤ scalePoint f t k ∧ scalePoint f t k < f := by
  unfold scalePoint
  rw [if_pos ⟨hf, ht, by omega⟩]
  have h0 : 0 ≤ k * f := Int.mul_nonneg (by omega) (by omega)
  have h1 : (k + 1) * f ≤ t * f := Int.mul_le_mul_of_nonneg_right (by omega) (by omega)
  rw [Int.add_mul, Int.one_mul, Int.mul_comm t f] at h1
  exact ⟨rfl, Int.ediv_nonneg h0 (by omega), Int.ediv_lt_of_lt_mul (by omega) (by omega)⟩
theorem scale_idx {i : DImg} {w h : Int} (hi : i.ok) (hw : 1 ≤ w ∧ w ≤ 16) (hh : 1 ≤ h ∧ h ≤ 16) {x y : Int} (hx : 0 ≤ x ∧ x < w) (hy : 0 ≤ y ∧ y < h) :
    (0 ≤ scalePoint i.H h y * i.W ∧ scalePoint i.H h y * i.W ≤ 256) ∧ (0 ≤ scalePoint i.W w x ∧ scalePoint i.W w x ≤ 15) ∧ scalePoint i.H h y * i.W + scalePoint i.W w x < i.data.length ∧
    i.data.getD (scalePoint i.H h y * i.W + scalePoint i.W w x).toNat 0 = scaleAt i w h x y := by
  have h1 := scalePoint_in hi.2.1 hh hy
  have h2 := scalePoint_in hi.1 hw hx
  have hp := place_lt (w := i.W) (h := i.H) h2.2 h1.2
  have hm := mul_bd (a := scalePoint i.H h y) (b := i.W) (A := 16) (B := 16) (by have := hi.2.1; omega) (by have := hi.1; omega)
  have hl := hi.2.2.1
  have hi1 := hi.1
  refine ⟨by omega, by omega, by omega, ?_⟩
  unfold scaleAt
  rw [h1.1, h2.1]
/-! ### fading in place -/
def mapFirst (f : Int → Int) (l : List Int) (j : Nat) : List Int := (l.take j).map f ++ l.drop j
theorem mapFirst_zero (f : Int → Int) (l : List Int) : mapFirst f l 0 = l := by simp [mapFirst]
theorem mapFirst_all (f : Int → Int) (l : List Int) {j : Nat} (h : l.length ≤ j) : mapFirst f l j = l.map f := by simp [mapFirst, List.take_of_length_le h, List.drop_of_length_le h]
theorem mapFirst_length (f : Int → Int) (l : List Int) (j : Nat) : (mapFirst f l j).length = l.length := by simp [mapFirst]; omega
theorem mapFirst_get (f : Int → Int) (l : List Int) {j : Nat} (h : j < l.length) : (mapFirst f l j).getD j 0 = l.getD j 0 := by
  simp only [mapFirst, List.getD_eq_getElem?_getD]
  rw [List.getElem?_append_right (by simp; omega)]
  simp [show j - min j l.length = 0 by omega]
theorem mapFirst_set (f : Int → Int) (l : List Int) {j : Nat} (h : j < l.length) : (mapFirst f l j).set j (f (l.getD j 0)) = mapFirst f l (j + 1) := by
  unfold mapFirst
  have hl : ((l.take j).map f).length = j := by simp; omega
  rw [List.set_append_right _ _ (by omega), hl, Nat.sub_self, List.drop_eq_getElem_cons h, List.set_cons_zero, List.take_add_one]
  simp only [Option.toList_some, List.map_append, List.map_cons, List.map_nil, List.append_assoc, List.cons_append, List.nil_append, List.getD_eq_getElem?_getD, List.getElem?_eq_getElem h, Option.getD_some]
theorem map_take_succ (f : Int → Int) (l : List Int) {j : Nat} (h : j < l.length) : (l.take j).map f ++ [f (l.getD j 0)] = (l.take (j + 1)).map f := by
  rw [List.take_add_one]
  simp only [Option.toList_some, List.map_append, List.map_cons, List.map_nil, List.getD_eq_getElem?_getD, List.getElem?_eq_getElem h, Option.getD_some]
end Sx
