/-
  The plain functions, continued: edits of scenes; damage. No program in sight.
-/
import Derived.Test.YtfmjeakcfmmkfaaGreatM3
set_option linter.unusedVariables false
namespace Sx

/-! ### chapter 10: edits -/
structure DEdit where
  Kind : Int
  Id : Int
  A : Int
  B : Int
  buf : DImg
deriving DecidableEq
def DEdit.zero : DEdit := ⟨0, 0, 0, 0, DImg.zero⟩
instance : Inhabited DEdit := ⟨DEdit.zero⟩
theorem DEdit.eq {a b : DEdit} (h1 : a.Kind = b.Kind) (h2 : a.Id = b.Id) (h3 : a.A = b.A) (h4 : a.B = b.B) (h5 : a.buf = b.buf) : a = b := by cases a; cases b; simp_all
def added (e : DEdit) : DSurf := ⟨e.Id, e.A, e.B, 0, 0, 255, 0, true, e.buf⟩
/-- surface number k, edited in place -/
def touched (x : DSurf) (e : DEdit) : DSurf :=
  if e.Kind = 2 then { x with X := e.A, Y := e.B }
  else if e.Kind = 5 then { x with buf := e.buf }
  else if e.Kind = 6 then { x with Alpha := e.A }
  else if e.Kind = 7 then { x with Orient := e.A }
  else if e.Kind = 8 then { x with W := e.A, H := e.B }
  else { x with Visible := decide (e.A = 1) }
def editK (l : List DSurf) (e : DEdit) (k : Nat) : List DSurf :=
  if e.Kind = 1 then l.eraseIdx k
  else if e.Kind = 3 then l.eraseIdx k ++ [l.getD k default]
  else if e.Kind = 4 then l.getD k default :: l.eraseIdx k
  else l.set k (touched (l.getD k default) e)
/-- is there such a surface, if one is needed, and such a kind -/
def editable (s : DScene) (e : DEdit) : Prop := e.Kind = 0 ∨ e.Kind = 10 ∨ ((1 ≤ e.Kind ∧ e.Kind ≤ 9) ∧ 0 ≤ surfaceIndex s.ss e.Id)
instance (s : DScene) (e : DEdit) : Decidable (editable s e) := by unfold editable; infer_instance
def edited (s : DScene) (e : DEdit) : DScene :=
  if e.Kind = 0 then { s with ss := s.ss ++ [added e] }
  else if e.Kind = 10 then { s with Back := e.A }
  else { s with ss := editK s.ss e (surfaceIndex s.ss e.Id).toNat }
def doEditOk (s : DScene) (e : DEdit) : Prop := s.ok ∧ editable s e ∧ (edited s e).ok
instance (s : DScene) (e : DEdit) : Decidable (doEditOk s e) := by unfold doEditOk; infer_instance
def doEdit (s : DScene) (e : DEdit) : DScene := if doEditOk s e then edited s e else s
def doEdits (s : DScene) (l : List DEdit) : DScene := l.foldl doEdit s
def editCount : DScene → List DEdit → Nat
  | _, [] => 0
  | s, e :: l => (if doEditOk s e then 1 else 0) + editCount (doEdit s e) l
theorem editCount_le : ∀ (s : DScene) (l : List DEdit), editCount s l ≤ l.length
  | _, [] => Nat.le_refl _
  | s, e :: l => by have := editCount_le (doEdit s e) l; simp only [editCount, List.length_cons]; split <;> omega
theorem doEdit_ok {s : DScene} (h : s.ok) (e : DEdit) : (doEdit s e).ok := by
  unfold doEdit; split
  · rename_i hh; exact hh.2.2
  · exact h
theorem edited_size (s : DScene) (e : DEdit) : (edited s e).W = s.W ∧ (edited s e).H = s.H := by
  unfold edited; split
  · exact ⟨rfl, rfl⟩
  · split <;> exact ⟨rfl, rfl⟩
theorem doEdit_size (s : DScene) (e : DEdit) : (doEdit s e).W = s.W ∧ (doEdit s e).H = s.H := by
  unfold doEdit; split
  · exact edited_size s e
  · exact ⟨rfl, rfl⟩
theorem doEdits_ok : ∀ {s : DScene} (l : List DEdit), s.ok → (doEdits s l).ok
  | s, [], h => h
  | s, e :: l, h => doEdits_ok (s := doEdit s e) l (doEdit_ok h e)
theorem doEdits_size : ∀ (s : DScene) (l : List DEdit), (doEdits s l).W = s.W ∧ (doEdits s l).H = s.H
  | s, [] => ⟨rfl, rfl⟩
  | s, e :: l => by
    have h1 := doEdits_size (doEdit s e) l
    have h2 := doEdit_size s e
    exact ⟨h1.1.trans h2.1, h1.2.trans h2.2⟩
/-- the first j edits -/
theorem doEdits_take {s : DScene} {l : List DEdit} {j : Nat} (h : j < l.length) : doEdits s (l.take (j + 1)) = doEdit (doEdits s (l.take j)) (l.getD j default) := by
  unfold doEdits
  rw [List.take_add_one, List.getElem?_eq_getElem h, List.foldl_append]
  simp [List.getD_eq_getElem?_getD, List.getElem?_eq_getElem h]
theorem editCount_append : ∀ (s : DScene) (k l : List DEdit), editCount s (k ++ l) = editCount s k + editCount (doEdits s k) l
  | s, [], l => by simp [editCount, doEdits]
  | s, e :: k, l => by
    have := editCount_append (doEdit s e) k l
    simp only [List.cons_append, editCount]
    rw [this]
    show _ = _ + editCount (doEdits (doEdit s e) k) l
    omega
theorem editCount_take {s : DScene} {l : List DEdit} {j : Nat} (h : j < l.length) : editCount s (l.take (j + 1)) = editCount s (l.take j) + (if doEditOk (doEdits s (l.take j)) (l.getD j default) then 1 else 0) := by
  rw [List.take_add_one, List.getElem?_eq_getElem h, editCount_append]
  simp [editCount, List.getD_eq_getElem?_getD, List.getElem?_eq_getElem h]

/-! surfaces by their Ids -/
theorem ids_inj {l : List DSurf} (h : surfsOk l l.length) {i j : Nat} (hi : i < l.length) (hj : j < l.length) (e : (l.getD i default).Id = (l.getD j default).Id) : i = j := by
  rcases Nat.lt_trichotomy i j with h1 | h1 | h1
  · exact absurd e ((h j hj).2 i h1)
  · exact h1
  · exact absurd e.symm ((h i hi).2 j h1)
theorem mem_getD {l : List DSurf} {s : DSurf} : s ∈ l ↔ ∃ i, i < l.length ∧ l.getD i default = s := by
  rw [List.mem_iff_getElem]
  constructor
  · rintro ⟨i, hi, e⟩; exact ⟨i, hi, by rw [List.getD_eq_getElem?_getD, List.getElem?_eq_getElem hi]; exact e⟩
  · rintro ⟨i, hi, e⟩; exact ⟨i, hi, by rw [List.getD_eq_getElem?_getD, List.getElem?_eq_getElem hi] at e; exact e⟩
theorem surfaceIndex_at {l : List DSurf} (h : surfsOk l l.length) {i : Nat} (hi : i < l.length) : surfaceIndex l (l.getD i default).Id = i :=
  surfaceIndex_found hi (fun j hj => (h i hi).2 j hj) rfl
/-- a surface of one list in another one -/
theorem index_same {l : List DSurf} (h : surfsOk l l.length) (s : DSurf) : s ∈ l ↔ 0 ≤ surfaceIndex l s.Id ∧ l.getD (surfaceIndex l s.Id).toNat default = s := by
  constructor
  · intro hs
    obtain ⟨i, hi, e⟩ := mem_getD.1 hs
    have := surfaceIndex_at h hi
    rw [e] at this
    rw [this]
    exact ⟨by omega, by simpa using e⟩
  · rintro ⟨h1, h2⟩
    rcases surfaceIndex_bd l s.Id with ⟨h3, _⟩ | ⟨j, h3, h4, _⟩
    · omega
    · rw [h3] at h2; exact mem_getD.2 ⟨j, h4, by simpa using h2⟩
theorem index_nonneg {l : List DSurf} (id : Int) : 0 ≤ surfaceIndex l id ↔ ∃ i, i < l.length ∧ (l.getD i default).Id = id := by
  rcases surfaceIndex_bd l id with ⟨h1, h2⟩ | ⟨j, h1, h2, h3, _⟩
  · exact ⟨fun h => by omega, fun ⟨i, hi, e⟩ => absurd e (h2 i hi)⟩
  · exact ⟨fun _ => ⟨j, h2, h3⟩, fun _ => by omega⟩
theorem surfsOk_nodup {l : List DSurf} (h : surfsOk l l.length) : l.Nodup := by
  have hp : l.Pairwise (fun a b => a ≠ b) := by
    rw [List.pairwise_iff_getElem]
    intro i j hi hj hij e
    have := ids_inj h hi hj (by rw [List.getD_eq_getElem?_getD, List.getD_eq_getElem?_getD, List.getElem?_eq_getElem hi, List.getElem?_eq_getElem hj, e])
    omega
  exact hp

/-! ### chapter 13: damage -/
/-- at this point the scenes may differ -/
def damP (a b : DScene) (x y : Int) : Prop :=
  (∃ s, s ∈ a.ss ∧ s ∉ b.ss ∧ (surfRect s).has x y) ∨ (∃ s, s ∈ b.ss ∧ s ∉ a.ss ∧ (surfRect s).has x y) ∨
  (∃ i k : Nat, k < i ∧ i < b.ss.length ∧ 0 ≤ surfaceIndex a.ss (b.ss.getD i default).Id ∧ surfaceIndex a.ss (b.ss.getD i default).Id < surfaceIndex a.ss (b.ss.getD k default).Id ∧ (surfRect (b.ss.getD i default)).has x y ∧ (surfRect (b.ss.getD k default)).has x y)
def seenAt (l : List DSurf) (x y : Int) : List DSurf := l.filter (fun s => decide ((surfRect s).has x y))
theorem layers_seen (x y : Int) : ∀ (l : List DSurf) (b : Int), layers l x y b = layers (seenAt l x y) x y b
  | [], _ => rfl
  | s :: l, b => by
    unfold seenAt
    rw [layers_cons, List.filter_cons]
    by_cases h : (surfRect s).has x y
    · rw [if_pos (by simpa using h), layers_cons]; exact layers_seen x y l _
    · rw [if_neg (by simpa using h)]
      have : layer s x y b = b := by unfold layer; rw [if_neg h]
      rw [this]; exact layers_seen x y l b
theorem sorted_ext {α : Type} (f : α → Int) : ∀ (k l : List α), k.Pairwise (fun a b => f a < f b) → l.Pairwise (fun a b => f a < f b) → (∀ a, a ∈ k ↔ a ∈ l) → k = l
  | [], [], _, _, _ => rfl
  | [], b :: l, _, _, h => absurd ((h b).2 (List.mem_cons_self ..)) (by simp)
  | a :: k, [], _, _, h => absurd ((h a).1 (List.mem_cons_self ..)) (by simp)
  | a :: k, b :: l, hk, hl, h => by
    rw [List.pairwise_cons] at hk hl
    have hab : a = b := by
      rcases List.mem_cons.1 ((h a).1 (List.mem_cons_self ..)) with e | e
      · exact e
      · rcases List.mem_cons.1 ((h b).2 (List.mem_cons_self ..)) with e2 | e2
        · exact e2.symm
        · have := hk.1 b e2; have := hl.1 a e; omega
    subst hab
    rw [sorted_ext f k l hk.2 hl.2 (fun c => ?_)]
    constructor
    · intro hc
      rcases List.mem_cons.1 ((h c).1 (List.mem_cons_of_mem _ hc)) with e | e
      · subst e; have := hk.1 c hc; omega
      · exact e
    · intro hc
      rcases List.mem_cons.1 ((h c).2 (List.mem_cons_of_mem _ hc)) with e | e
      · subst e; have := hl.1 c hc; omega
      · exact e
theorem pairwise_getD {l : List DSurf} {R : DSurf → DSurf → Prop} (h : ∀ i j, i < j → j < l.length → R (l.getD i default) (l.getD j default)) : l.Pairwise R := by
  rw [List.pairwise_iff_getElem]
  intro i j hi hj hij
  have := h i j hij hj
  rwa [List.getD_eq_getElem?_getD, List.getD_eq_getElem?_getD, List.getElem?_eq_getElem hi, List.getElem?_eq_getElem hj] at this
/-- outside of the damage the scenes look the same -/
theorem seenAt_same {a b : DScene} (ha : a.ok) (hb : b.ok) {x y : Int} (h : ¬ damP a b x y) : seenAt a.ss x y = seenAt b.ss x y := by
  have hsa := ha.2.2.2.2
  have hsb := hb.2.2.2.2
  have h1 : ∀ s, s ∈ a.ss → (surfRect s).has x y → s ∈ b.ss := fun s hs hh => by
    by_cases e : s ∈ b.ss
    · exact e
    · exact absurd (.inl ⟨s, hs, e, hh⟩) h
  have h2 : ∀ s, s ∈ b.ss → (surfRect s).has x y → s ∈ a.ss := fun s hs hh => by
    by_cases e : s ∈ a.ss
    · exact e
    · exact absurd (.inr (.inl ⟨s, hs, e, hh⟩)) h
  refine sorted_ext (fun s => surfaceIndex a.ss s.Id) _ _ ?_ ?_ (fun s => ?_)
  · refine List.Pairwise.filter _ (pairwise_getD fun i j hij hj => ?_)
    rw [surfaceIndex_at hsa (by omega), surfaceIndex_at hsa hj]; omega
  · have hp : b.ss.Pairwise (fun s t => (surfRect s).has x y → (surfRect t).has x y → surfaceIndex a.ss s.Id < surfaceIndex a.ss t.Id) := by
      refine pairwise_getD fun i j hij hj hi' hj' => ?_
      have hm1 := h2 _ (mem_getD.2 ⟨i, by omega, rfl⟩) hi'
      have hm2 := h2 _ (mem_getD.2 ⟨j, hj, rfl⟩) hj'
      have n1 := (index_same hsa _).1 hm1
      have n2 := (index_same hsa _).1 hm2
      by_cases hlt : surfaceIndex a.ss (b.ss.getD j default).Id < surfaceIndex a.ss (b.ss.getD i default).Id
      · exact absurd (.inr (.inr ⟨j, i, hij, hj, n2.1, hlt, hj', hi'⟩)) h
      · have hne : surfaceIndex a.ss (b.ss.getD j default).Id ≠ surfaceIndex a.ss (b.ss.getD i default).Id := fun e => by
          have e2 := n1.2
          rw [← e, n2.2] at e2
          have := ids_inj hsb (i := i) (j := j) (by omega) hj (by rw [e2])
          omega
        omega
    unfold seenAt
    rw [List.pairwise_filter]
    exact hp.imp (fun hh h3 h4 => hh (of_decide_eq_true h3) (of_decide_eq_true h4))
  · unfold seenAt
    rw [List.mem_filter, List.mem_filter, decide_eq_true_iff]
    exact ⟨fun hh => ⟨h1 s hh.1 hh.2, hh.2⟩, fun hh => ⟨h2 s hh.1 hh.2, hh.2⟩⟩
theorem paintF_same {a b : DScene} (ha : a.ok) (hb : b.ok) (hB : a.Back = b.Back) {x y : Int} (h : ¬ damP a b x y) : paintF a x y = paintF b x y := by
  unfold paintF
  rw [layers_seen x y a.ss, layers_seen x y b.ss, seenAt_same ha hb h, hB]
theorem not_damP_self {a : DScene} (ha : a.ok) (x y : Int) : ¬ damP a a x y := by
  rintro (⟨s, h1, h2, _⟩ | ⟨s, h1, h2, _⟩ | ⟨i, k, h1, h2, h3, h4, _⟩)
  · exact h2 h1
  · exact h2 h1
  · rw [surfaceIndex_at ha.2.2.2.2 h2, surfaceIndex_at ha.2.2.2.2 (by omega)] at h4; omega
end Sx
