/-
  A small engine for walking Go code: judgements over a frame and a heap that are written as lists. It proves nothing about any program by itself.
-/
import Derived.Deep.Quiet
import Derived.Below
import Derived.Laws.Slices
import Derived.IntWalk
import Derived.Laws.CopyOwn
import Derived.Laws.Rows
import Derived.Laws.Tables
import Derived.Laws.CopyRow
import Derived.OrdersHeld
import Derived.Laws.AppendOwn
import Derived.MapKept
set_option linter.unusedVariables false
/-
  A small engine for walking Go code: judgements over a symbolic frame (a list of known slots) and a symbolic heap (a list of known blocks). Proves nothing about any program by itself.
-/
namespace Sx
open Go

/-! ### Frames -/
abbrev SEnv := List (Nat × Value)

def slook : SEnv → Nat → Option Value
  | [], _ => none
  | (s, v) :: r, t => bif Nat.beq s t then some v else slook r t

def sval (E : SEnv) : Operand → Option Value
  | .tmp t => slook E t
  | .const v => some v
  | .global g => some (.pointer (some ⟨g, 0, none⟩))
  | .func f => some (.func (.func f) #[] #[])

structure SSat (n : Nat) (a : Act) (E : SEnv) : Prop where
  defers : a.defers = []
  size : a.tmps.size = n
  slots : ∀ t v, slook E t = some v → a.tmps.getD t undef = v

theorem SSat.sval {n : Nat} {a : Act} {E : SEnv} (h : SSat n a E) {x : Operand} {v : Value} (hv : sval E x = some v) : a.eval x = v := by
  cases x with
  | tmp t => exact h.slots t v hv
  | const u => simpa [Sx.sval, Act.eval] using hv
  | global g => simpa [Sx.sval, Act.eval] using hv
  | func f => simpa [Sx.sval, Act.eval] using hv

theorem slook_cons (s t : Nat) (v : Value) (r : SEnv) : slook ((s, v) :: r) t = if s = t then some v else slook r t := by
  show (bif Nat.beq s t then some v else slook r t) = _
  by_cases h : s = t
  · subst h; simp
  · have : Nat.beq s t = false := by
      cases hb : Nat.beq s t with
      | false => rfl
      | true => exact (h (Nat.eq_of_beq_eq_true hb)).elim
    simp [this, h]

theorem SSat.put {n : Nat} {a : Act} {E : SEnv} (h : SSat n a E) {d : Nat} (hd : Nat.blt d n = true) (v : Value) : SSat n (a.put (some d) v) ((d, v) :: E) := by
  have hd' : d < n := by simpa [Nat.blt_eq] using hd
  refine ⟨h.defers, by simp [Act.put, h.size], fun t u hu => ?_⟩
  rw [slook_cons] at hu
  simp only [Act.put]
  by_cases ht : d = t
  · subst ht
    simp only [if_true, Option.some.injEq] at hu
    subst hu
    simp [Array.getD_eq_getD_getElem?, h.size, hd']
  · simp only [ht, if_false] at hu
    have := h.slots t u hu
    simp only [Array.getD_eq_getD_getElem?] at this ⊢
    rw [Array.getElem?_setIfInBounds]
    simp [ht, this]

theorem SSat.over {n : Nat} {a : Act} {E : SEnv} (h : SSat n a E) {d : Nat} {v u : Value} (hv : slook E d = some v) (e : v = u) : SSat n a ((d, u) :: E) := by
  refine ⟨h.defers, h.size, fun t x hx => ?_⟩
  rw [slook_cons] at hx
  split at hx
  · rename_i ht; subst ht; subst e; simp only [Option.some.injEq] at hx; subst hx; exact h.slots _ _ hv
  · exact h.slots _ _ hx

def SSub (E : SEnv) : SEnv → Prop
  | [] => True
  | (t, v) :: r => slook E t = some v ∧ SSub E r

theorem SSub.slook {E : SEnv} : ∀ {F : SEnv}, SSub E F → ∀ t v, slook F t = some v → slook E t = some v
  | [], _, t, v, h => by simp [Sx.slook] at h
  | (s, u) :: r, hs, t, v, h => by
    rw [slook_cons] at h
    split at h
    · rename_i e; subst e; simp only [Option.some.injEq] at h; subst h; exact hs.1
    · exact SSub.slook hs.2 t v h

theorem SSat.sub {n : Nat} {a : Act} {E F : SEnv} (h : SSat n a E) (hs : SSub E F) : SSat n a F :=
  ⟨h.defers, h.size, fun t v hv => h.slots t v (hs.slook t v hv)⟩

/-! ### Heaps: a list of pieces, each a list of blocks -/
abbrev SPiece := List (Nat × Obj)
abbrev SHeap := List SPiece

/-- which blocks of the start world may have turned -/
abbrev SMut := List Nat
/-- all blocks of the start world but those of M are as they were -/
structure SKeep (M : SMut) (s w : World) : Prop where
  os : w.os = s.os
  tape : w.tape = s.tape
  output : w.output = s.output
  size : s.heap.size ≤ w.heap.size
  block : ∀ k, k < s.heap.size → k ∉ M → w.heap[k]? = s.heap[k]?

/-- The world is as 's' was but for the blocks 'lo' and new ones; the blocks of L's pieces hold what L says, and are all different. -/
structure SSt (lo : SMut) (s : World) (L : SHeap) (w : World) : Prop where
  kept : SKeep lo s w
  blocks : ∀ b o, (b, o) ∈ L.flatten → (b ∈ lo ∨ s.heap.size ≤ b) ∧ w.heap[b]? = some o
  nodup : (L.flatten.map (·.1)).Nodup

theorem SSt.init (w : World) : SSt [] w [] w := ⟨⟨rfl, rfl, rfl, Nat.le_refl _, fun _ _ _ => rfl⟩, by simp, by simp⟩
/-- these blocks stand in the world -/
def Holds (w : World) (H : SPiece) : Prop := ∀ b o, (b, o) ∈ H → w.heap[b]? = some o
def SPiece.keys (H : SPiece) : List Nat := H.map (·.1)
theorem SPiece.mem_keys {H : SPiece} {b : Nat} : b ∈ H.keys ↔ ∃ o, (b, o) ∈ H := by simp [SPiece.keys]
theorem SSt.initM {w : World} {H : SPiece} (h : Holds w H) (hn : H.keys.Nodup) : SSt H.keys w [H] w :=
  ⟨⟨rfl, rfl, rfl, Nat.le_refl _, fun _ _ _ => rfl⟩, fun b o hm => by
    have hm' : (b, o) ∈ H := by simpa using hm
    exact ⟨.inl (SPiece.mem_keys.2 ⟨o, hm'⟩), h b o hm'⟩, by simpa [SPiece.keys] using hn⟩

theorem SSt.hi {lo : SMut} {s w : World} {L : SHeap} (h : SSt lo s L w) : s.heap.size ≤ w.heap.size := h.kept.size
theorem SSt.below {s w : World} {L : SHeap} (h : SSt [] s L w) : RowKit.Below s.heap.size s w := ⟨h.kept.os, h.kept.tape, h.kept.output, h.kept.size, fun k hk => h.kept.block k hk (by simp)⟩

theorem SSt.lt {lo : SMut} {s w : World} {L : SHeap} (h : SSt lo s L w) {b : Nat} {o : Obj} (hb : (b, o) ∈ L.flatten) : b < w.heap.size := by
  have := (h.blocks b o hb).2
  exact (Array.getElem?_eq_some_iff.1 this).1

theorem SSt.grow {lo : SMut} {s w w' : World} {L : SHeap} (h : SSt lo s L w) (hb : RowKit.Below w.heap.size w w') : SSt lo s L w' :=
  ⟨⟨hb.os.trans h.kept.os, hb.tape.trans h.kept.tape, hb.output.trans h.kept.output, Nat.le_trans h.kept.size hb.size, fun k hk hm => (hb.block k (Nat.lt_of_lt_of_le hk h.hi)).trans (h.kept.block k hk hm)⟩,
   fun b o hm => ⟨(h.blocks b o hm).1, by rw [hb.block b (h.lt hm)]; exact (h.blocks b o hm).2⟩, h.nodup⟩

theorem SSt.drew {lo : SMut} {s w : World} {L : SHeap} (h : SSt lo s L w) : SSt lo s L { w with drawn := w.drawn + 1 } :=
  h.grow ((RowKit.Below.refl _ w).drew)

/-- new blocks, all of them known -/
structure SFresh (w w' : World) (H : SPiece) : Prop where
  below : RowKit.Below w.heap.size w w'
  blocks : ∀ b o, (b, o) ∈ H → w.heap.size ≤ b ∧ w'.heap[b]? = some o
  nodup : (H.map (·.1)).Nodup

theorem SSt.fresh {lo : SMut} {s w w' : World} {L : SHeap} {H : SPiece} (h : SSt lo s L w) (hf : SFresh w w' H) : SSt lo s (H :: L) w' := by
  have hg := h.grow hf.below
  refine ⟨hg.kept, fun b o hm => ?_, ?_⟩
  · rw [List.flatten_cons, List.mem_append] at hm
    rcases hm with hm | hm
    · exact ⟨.inr (Nat.le_trans h.hi (hf.blocks b o hm).1), (hf.blocks b o hm).2⟩
    · exact hg.blocks b o hm
  · rw [List.flatten_cons, List.map_append, List.nodup_append]
    refine ⟨hf.nodup, h.nodup, fun x hx y hy e => ?_⟩
    subst e
    obtain ⟨⟨b, o⟩, h1, e1⟩ := List.mem_map.1 hx
    obtain ⟨⟨c, p⟩, h2, e2⟩ := List.mem_map.1 hy
    have h3 := (hf.blocks b o h1).1
    have h4 := h.lt h2
    simp only at e1 e2
    omega

theorem SSt.alloc {lo : SMut} {s w : World} {L : SHeap} (h : SSt lo s L w) (o : Obj) : SSt lo s ([(w.heap.size, o)] :: L) (w.alloc o) := by
  refine h.fresh ⟨(RowKit.Below.refl _ w).alloc (Nat.le_refl _) o, fun b p hm => ?_, by simp⟩
  rw [List.mem_singleton] at hm
  cases hm
  exact ⟨Nat.le_refl _, heap_alloc_new w o⟩

theorem sub_flatten {α : Type} {L L' : List (List α)} (h : L'.Sublist L) : L'.flatten.Sublist L.flatten := by
  induction h with
  | slnil => exact .refl _
  | cons a _ ih => exact ih.trans (by simp)
  | cons_cons a _ ih => simpa using ih

theorem SSt.sub {lo : SMut} {s w : World} {L L' : SHeap} (h : SSt lo s L w) (hp : L'.Sublist L) : SSt lo s L' w :=
  ⟨h.kept, fun b o hm => h.blocks b o ((sub_flatten hp).subset hm), ((sub_flatten hp).map _).nodup h.nodup⟩

theorem SSt.perm {lo : SMut} {s w : World} {L L' : SHeap} (h : SSt lo s L w) (hp : L.flatten.Perm L'.flatten) : SSt lo s L' w :=
  ⟨h.kept, fun b o hm => h.blocks b o (hp.mem_iff.2 hm), (hp.map _).nodup_iff.1 h.nodup⟩

/-! pieces by their place -/
def getL : SHeap → Nat → Option SPiece
  | [], _ => none
  | x :: _, 0 => some x
  | _ :: r, i + 1 => getL r i
def setL : SHeap → Nat → SPiece → SHeap
  | [], _, _ => []
  | _ :: r, 0, y => y :: r
  | x :: r, i + 1, y => x :: setL r i y
theorem getL_mem : ∀ {L : SHeap} {i : Nat} {H : SPiece}, getL L i = some H → H ∈ L
  | [], _, _, h => by simp [getL] at h
  | x :: r, 0, H, h => by simp [getL] at h; simp [h]
  | x :: r, i + 1, H, h => List.mem_cons_of_mem _ (getL_mem (by simpa [getL] using h))
theorem getL_flat {L : SHeap} {i : Nat} {H : SPiece} (h : getL L i = some H) {p : Nat × Obj} (hp : p ∈ H) : p ∈ L.flatten := List.mem_flatten.2 ⟨H, getL_mem h, hp⟩
theorem getL_split : ∀ {L : SHeap} {i : Nat} {H : SPiece}, getL L i = some H → ∃ A B, L = A ++ H :: B ∧ ∀ H', setL L i H' = A ++ H' :: B
  | [], _, _, h => by simp [getL] at h
  | x :: r, 0, H, h => by simp [getL] at h; subst h; exact ⟨[], r, rfl, fun _ => rfl⟩
  | x :: r, i + 1, H, h => by
    obtain ⟨A, B, h1, h2⟩ := getL_split (L := r) (by simpa [getL] using h)
    exact ⟨x :: A, B, by rw [h1]; rfl, fun H' => by show x :: setL r i H' = _; rw [h2]; rfl⟩

/-- one piece turns -/
theorem SSt.setAt {lo : SMut} {s w w' : World} {L : SHeap} {i : Nat} {H H' : SPiece} (h : SSt lo s L w) (hi : getL L i = some H)
    (hos : w'.os = w.os) (htape : w'.tape = w.tape) (hout : w'.output = w.output) (hsz : w.heap.size ≤ w'.heap.size)
    (hb : ∀ b o, (b, o) ∈ H' → w'.heap[b]? = some o) (hnd : (H'.map (·.1)).Nodup) (hkey : ∀ b o, (b, o) ∈ H' → (∃ p, (b, p) ∈ H) ∨ w.heap.size ≤ b)
    (hk : ∀ k, k < w.heap.size → (∀ p, (k, p) ∉ H) → w'.heap[k]? = w.heap[k]?) : SSt lo s (setL L i H') w' := by
  obtain ⟨A, B, hL, hset⟩ := getL_split hi
  rw [hset]
  have hfl : L.flatten = A.flatten ++ (H ++ B.flatten) := by rw [hL]; simp
  have hfl' : (A ++ H' :: B).flatten = A.flatten ++ (H' ++ B.flatten) := by simp
  have hnodup := h.nodup
  rw [hfl, List.map_append, List.map_append, List.nodup_append] at hnodup
  obtain ⟨n1, n2, n3⟩ := hnodup
  rw [List.nodup_append] at n2
  obtain ⟨n4, n5, n6⟩ := n2
  have hlowH : ∀ b p, (b, p) ∈ H → b ∈ lo ∨ s.heap.size ≤ b := fun b p hp => (h.blocks b p (by rw [hfl]; simp [hp])).1
  have hother : ∀ c p, (c, p) ∈ A.flatten ∨ (c, p) ∈ B.flatten → c < w.heap.size ∧ (∀ q, (c, q) ∉ H) ∧ (c ∈ lo ∨ s.heap.size ≤ c) ∧ w.heap[c]? = some p := by
    intro c p hc
    have hm : (c, p) ∈ L.flatten := by rw [hfl]; rcases hc with hc | hc <;> simp [hc]
    refine ⟨h.lt hm, fun q hq => ?_, (h.blocks c p hm).1, (h.blocks c p hm).2⟩
    rcases hc with hc | hc
    · exact n3 c (List.mem_map.2 ⟨(c, p), hc, rfl⟩) c (List.mem_append_left _ (List.mem_map.2 ⟨(c, q), hq, rfl⟩)) rfl
    · exact n6 c (List.mem_map.2 ⟨(c, q), hq, rfl⟩) c (List.mem_map.2 ⟨(c, p), hc, rfl⟩) rfl
  have hlo' : ∀ b o, (b, o) ∈ H' → b ∈ lo ∨ s.heap.size ≤ b := fun b o hm => by
    rcases hkey b o hm with ⟨p, hp⟩ | hp
    · exact hlowH b p hp
    · exact .inr (Nat.le_trans h.hi hp)
  have hdis : ∀ c p b o, (c, p) ∈ A.flatten ∨ (c, p) ∈ B.flatten → (b, o) ∈ H' → c ≠ b := by
    intro c p b o hc hm e
    subst e
    rcases hkey c o hm with ⟨q, hq⟩ | hq
    · exact (hother c p hc).2.1 q hq
    · have := (hother c p hc).1; omega
  refine ⟨⟨hos.trans h.kept.os, htape.trans h.kept.tape, hout.trans h.kept.output, Nat.le_trans h.kept.size hsz, fun k hk' hkm => (hk k (Nat.lt_of_lt_of_le hk' h.hi) fun p hp => ?_).trans (h.kept.block k hk' hkm)⟩, fun b o hm => ?_, ?_⟩
  · rcases hlowH k p hp with h1 | h1
    · exact hkm h1
    · omega
  · rw [hfl', List.mem_append, List.mem_append] at hm
    rcases hm with hm | hm | hm
    · have := hother b o (.inl hm)
      exact ⟨this.2.2.1, by rw [hk b this.1 this.2.1]; exact this.2.2.2⟩
    · exact ⟨hlo' b o hm, hb b o hm⟩
    · have := hother b o (.inr hm)
      exact ⟨this.2.2.1, by rw [hk b this.1 this.2.1]; exact this.2.2.2⟩
  · rw [hfl', List.map_append, List.map_append, List.nodup_append]
    refine ⟨n1, ?_, ?_⟩
    · rw [List.nodup_append]
      refine ⟨hnd, n5, fun x hx y hy e => ?_⟩
      obtain ⟨⟨b, o⟩, h1, e1⟩ := List.mem_map.1 hx
      obtain ⟨⟨c, p⟩, h2, e2⟩ := List.mem_map.1 hy
      exact hdis c p b o (.inr h2) h1 (by simp only at e1 e2; omega)
    · intro x hx y hy e
      obtain ⟨⟨c, p⟩, h2, e2⟩ := List.mem_map.1 hx
      rcases List.mem_append.1 hy with hy | hy
      · obtain ⟨⟨b, o⟩, h1, e1⟩ := List.mem_map.1 hy
        exact hdis c p b o (.inl h2) h1 (by simp only at e1 e2; omega)
      · exact n3 x hx y (List.mem_append_right _ hy) e

/-- what a call has turned: the piece H into H', with new memory F -/
theorem SSt.turn {lo : SMut} {s w w' : World} {L : SHeap} {i : Nat} {H H' F : SPiece} (h : SSt lo s L w) (hi : getL L i = some H) (ht : SSt H.keys w [H', F] w') : SSt lo s (F :: setL L i H') w' := by
  have h1 : SSt lo s (setL L i (H' ++ F)) w' := by
    refine h.setAt hi ht.kept.os ht.kept.tape ht.kept.output ht.kept.size ?_ ?_ ?_ ?_
    · intro b o hm; exact (ht.blocks b o (by simpa using hm)).2
    · simpa using ht.nodup
    · intro b o hm
      rcases (ht.blocks b o (by simpa using hm)).1 with h2 | h2
      · exact .inl (SPiece.mem_keys.1 h2)
      · exact .inr h2
    · intro k hk hn
      exact ht.kept.block k hk (fun hm => by obtain ⟨o, ho⟩ := SPiece.mem_keys.1 hm; exact hn o ho)
  obtain ⟨A, B, hL, hset⟩ := getL_split hi
  refine h1.perm ?_
  rw [hset, hset]
  simp only [List.flatten_append, List.flatten_cons, List.append_assoc]
  refine (List.perm_append_comm_assoc ..).trans ?_
  have e : (H' ++ (A.flatten ++ (F ++ B.flatten))).Perm (F ++ (A.flatten ++ (H' ++ B.flatten))) := by
    have p1 : (H' ++ (A.flatten ++ (F ++ B.flatten))).Perm (H' ++ (F ++ (A.flatten ++ B.flatten))) := List.Perm.append_left _ (List.perm_append_comm_assoc ..)
    have p2 : (H' ++ (F ++ (A.flatten ++ B.flatten))).Perm (F ++ (H' ++ (A.flatten ++ B.flatten))) := List.perm_append_comm_assoc ..
    have p3 : (F ++ (H' ++ (A.flatten ++ B.flatten))).Perm (F ++ (A.flatten ++ (H' ++ B.flatten))) := List.Perm.append_left _ (List.perm_append_comm_assoc ..)
    exact (p1.trans p2).trans p3
  exact e

/-! ### Judgements -/
section
variable {P : Program} {n : Nat} {lo : SMut} {s : World} {ops : Array Oper} {Q : Exit → Act → World → Prop}

def WPL (P : Program) (n : Nat) (lo : SMut) (s : World) (ops : Array Oper) (Q : Exit → Act → World → Prop) (l : List Oper) (E : SEnv) (L : SHeap) : Prop :=
  ∀ a w, SSat n a E → SSt lo s L w → wpList P ops Q l a w

def WPC (P : Program) (n : Nat) (lo : SMut) (s : World) (c : Code) (Q : Exit → Act → World → Prop) (E : SEnv) (L : SHeap) : Prop :=
  ∀ a w, SSat n a E → SSt lo s L w → c.wp P Q a w

/-- In a region that draws its order. -/
def WPQ (P : Program) (n : Nat) (lo : SMut) (s : World) (ops : Array Oper) (Q : Exit → Act → World → Prop) (l : List Oper) (E : SEnv) (L : SHeap) : Prop :=
  ∀ a, SSat n a E → wpQuiet P ops (SSt lo s L) (fun a' => ∀ w', SSt lo s L w' → Q .normal a' w') l a

/-- In such a frame, in every such world, the operation yields 'v' and leaves such a world. -/
def SOpV (P : Program) (n : Nat) (lo : SMut) (s : World) (E : SEnv) (L : SHeap) (o : Oper) (v : Value) : Prop :=
  ∀ a, SSat n a E → ∀ w, SSt lo s L w → o.quietAt P a (SSt lo s L) w v

theorem SOpV.of_run {E : SEnv} {L : SHeap} {o : Oper} {v : Value}
    (h : ∀ a, SSat n a E → ∀ w, SSt lo s L w → (execOp a.eval o).run P w = .ok (.value v) w) : SOpV P n lo s E L o v := by
  intro a ha w hw
  unfold Oper.quietAt
  rw [h a ha w hw]
  exact ⟨rfl, rfl⟩

theorem s_step {E : SEnv} {L : SHeap} {d : Nat} {op : Op} {ty : TypeId} {pos : String} {after : Array Edge} {v : Value} {rest : List Oper}
    (hv : SOpV P n lo s E L ⟨some d, op, ty, pos, after, none⟩ v) (hd : Nat.blt d n = true)
    (k : WPL P n lo s ops Q rest ((d, v) :: E) L) : WPL P n lo s ops Q (⟨some d, op, ty, pos, after, none⟩ :: rest) E L := by
  intro a w ha hw
  refine wpList_plain rfl fun K hK => ?_
  exact Oper.wp_of_quiet (C := SSt lo s L) (K := fun a' => a' = a.put (some d) v) hw (fun a' w' hw' he => he ▸ hK _ _ (k _ _ (ha.put hd v) hw')) ⟨v, hv a ha, rfl⟩

theorem s_stepQ {E : SEnv} {L : SHeap} {d : Nat} {op : Op} {ty : TypeId} {pos : String} {after : Array Edge} {v : Value} {rest : List Oper}
    (hv : SOpV P n lo s E L ⟨some d, op, ty, pos, after, none⟩ v) (hd : Nat.blt d n = true)
    (k : WPQ P n lo s ops Q rest ((d, v) :: E) L) : WPQ P n lo s ops Q (⟨some d, op, ty, pos, after, none⟩ :: rest) E L := by
  intro a ha
  refine wpQuiet_step fun K hK => ?_
  simp only [Region.wanted, if_true]
  exact ⟨v, hv a ha, hK _ (k _ (ha.put hd v))⟩

/-! guards -/
def sgslot (ops : Array Oper) (j : Nat) : Option Nat := (ops[j]?).bind (·.dst)

theorem yielded_slook {a : Act} {E : SEnv} {j t : Nat} {v : Value} (ha : SSat n a E) (hj : sgslot ops j = some t) (hb : slook E t = some v) (ht : Nat.blt t n = true) :
    yielded ops a.tmps j = (match v with | .bool b => some b | _ => none) := by
  have hs := ha.slots t v hb
  have htn : t < a.tmps.size := by rw [ha.size]; simpa [Nat.blt_eq] using ht
  have h1 : (ops[j]?).bind (·.dst) = some t := hj
  have h2 : a.tmps[t]? = some v := by
    rw [Array.getD_eq_getD_getElem?, Array.getElem?_eq_getElem htn] at hs
    rw [Array.getElem?_eq_getElem htn]
    simpa using hs
  simp only [yielded, h1, Option.bind_some, h2]
  cases v <;> rfl

theorem s_gyes {E : SEnv} {L : SHeap} {dst : Option Tmp} {op : Op} {ty : TypeId} {pos : String} {after : Array Edge} {rest : List Oper} {j t : Nat} {want : Bool}
    (hj : sgslot ops j = some t) (hb : slook E t = some (.bool want)) (ht : Nat.blt t n = true)
    (k : WPL P n lo s ops Q (⟨dst, op, ty, pos, after, none⟩ :: rest) E L) : WPL P n lo s ops Q (⟨dst, op, ty, pos, after, some (j, want)⟩ :: rest) E L := by
  intro a w ha hw
  have h := k a w ha hw
  have hy := yielded_slook ha hj hb ht
  unfold wpList at h ⊢
  simp only [Region.wanted, if_true] at h
  simp only [Region.wanted, hy, beq_self_eq_true, if_true]
  exact h

theorem s_gyesQ {E : SEnv} {L : SHeap} {dst : Option Tmp} {op : Op} {ty : TypeId} {pos : String} {after : Array Edge} {rest : List Oper} {j t : Nat} {want : Bool}
    (hj : sgslot ops j = some t) (hb : slook E t = some (.bool want)) (ht : Nat.blt t n = true)
    (k : WPQ P n lo s ops Q (⟨dst, op, ty, pos, after, none⟩ :: rest) E L) : WPQ P n lo s ops Q (⟨dst, op, ty, pos, after, some (j, want)⟩ :: rest) E L := by
  intro a ha
  have h := k a ha
  have hy := yielded_slook ha hj hb ht
  unfold wpQuiet at h ⊢
  simp only [Region.wanted, if_true] at h
  simp only [Region.wanted, hy, beq_self_eq_true, if_true]
  exact h

theorem s_gno {E : SEnv} {L : SHeap} {d : Nat} {op : Op} {ty : TypeId} {pos : String} {after : Array Edge} {rest : List Oper} {j t : Nat} {want : Bool} {v : Value}
    (hj : sgslot ops j = some t) (hb : slook E t = some v) (hv : (match v with | .bool b => some b == some want | _ => false) = false) (ht : Nat.blt t n = true) (hd : Nat.blt d n = true)
    (k : WPL P n lo s ops Q rest ((d, undef) :: E) L) : WPL P n lo s ops Q (⟨some d, op, ty, pos, after, some (j, want)⟩ :: rest) E L := by
  intro a w ha hw
  have h := k _ w (ha.put hd undef) hw
  have hy := yielded_slook ha hj hb ht
  unfold wpList
  have : Region.wanted ⟨some d, op, ty, pos, after, some (j, want)⟩ (yielded ops a.tmps) = false := by
    simp only [Region.wanted, hy]
    cases v <;> first | exact hv | rfl
  simp only [this, Bool.false_eq_true, if_false]
  exact h

theorem s_gnoQ {E : SEnv} {L : SHeap} {d : Nat} {op : Op} {ty : TypeId} {pos : String} {after : Array Edge} {rest : List Oper} {j t : Nat} {want : Bool} {v : Value}
    (hj : sgslot ops j = some t) (hb : slook E t = some v) (hv : (match v with | .bool b => some b == some want | _ => false) = false) (ht : Nat.blt t n = true) (hd : Nat.blt d n = true)
    (k : WPQ P n lo s ops Q rest ((d, undef) :: E) L) : WPQ P n lo s ops Q (⟨some d, op, ty, pos, after, some (j, want)⟩ :: rest) E L := by
  intro a ha
  have h := k _ (ha.put hd undef)
  have hy := yielded_slook ha hj hb ht
  unfold wpQuiet
  have : Region.wanted ⟨some d, op, ty, pos, after, some (j, want)⟩ (yielded ops a.tmps) = false := by
    simp only [Region.wanted, hy]
    cases v <;> first | exact hv | rfl
  simp only [this, Bool.false_eq_true, if_false]
  exact h

theorem s_split {E : SEnv} {L : SHeap} {dst : Option Tmp} {op : Op} {ty : TypeId} {pos : String} {after : Array Edge} {rest : List Oper} {j t : Nat} {want b : Bool}
    (hj : sgslot ops j = some t) (hb : slook E t = some (.bool b))
    (y : b = true → WPL P n lo s ops Q (⟨dst, op, ty, pos, after, some (j, want)⟩ :: rest) ((t, .bool true) :: E) L)
    (z : b = false → WPL P n lo s ops Q (⟨dst, op, ty, pos, after, some (j, want)⟩ :: rest) ((t, .bool false) :: E) L) : WPL P n lo s ops Q (⟨dst, op, ty, pos, after, some (j, want)⟩ :: rest) E L := by
  intro a w ha hw
  cases b
  · exact z rfl a w (ha.over hb rfl) hw
  · exact y rfl a w (ha.over hb rfl) hw

theorem s_splitQ {E : SEnv} {L : SHeap} {dst : Option Tmp} {op : Op} {ty : TypeId} {pos : String} {after : Array Edge} {rest : List Oper} {j t : Nat} {want b : Bool}
    (hj : sgslot ops j = some t) (hb : slook E t = some (.bool b))
    (y : b = true → WPQ P n lo s ops Q (⟨dst, op, ty, pos, after, some (j, want)⟩ :: rest) ((t, .bool true) :: E) L)
    (z : b = false → WPQ P n lo s ops Q (⟨dst, op, ty, pos, after, some (j, want)⟩ :: rest) ((t, .bool false) :: E) L) : WPQ P n lo s ops Q (⟨dst, op, ty, pos, after, some (j, want)⟩ :: rest) E L := by
  intro a ha
  cases b
  · exact z rfl a (ha.over hb rfl)
  · exact y rfl a (ha.over hb rfl)

/-! code -/
theorem c_seq {x y : Code} {E : SEnv} {L : SHeap} (h : WPC P n lo s x (Exit.then (y.wp P Q) Q) E L) : WPC P n lo s (.seq x y) Q E L :=
  fun a w ha hw => wp_seq (h a w ha hw)

theorem c_region {id : Nat} {l : List Oper} {E : SEnv} {L : SHeap} (h : WPL P n lo s l.toArray Q l E L) : WPC P n lo s (.region id l.toArray false) Q E L :=
  fun a w ha hw => wp_region_lit (h a w ha hw)

theorem c_regionQ {id : Nat} {l : List Oper} {E : SEnv} {L : SHeap} (hm : P.follows .mixedOrders = true) (hB : Region.lexB .any l.toArray = true)
    (h : WPQ P n lo s l.toArray Q l E L) : WPC P n lo s (.region id l.toArray true) Q E L :=
  fun a w ha hw => wp_region_quiet (C := SSt lo s L) hm hB hw.drew (by simpa using h a ha)

theorem l_then {y : Code} {E : SEnv} {L : SHeap} (h : WPC P n lo s y Q E L) : WPL P n lo s ops (Exit.then (y.wp P Q) Q) [] E L :=
  fun a w ha hw => wpList_nil (h a w ha hw)

theorem lQ_then {y : Code} {E : SEnv} {L : SHeap} (h : WPC P n lo s y Q E L) : WPQ P n lo s ops (Exit.then (y.wp P Q) Q) [] E L :=
  fun a ha => wpQuiet_nil fun w hw => h a w ha hw

def SEnds (n : Nat) (lo : SMut) (s : World) (Q : Exit → Act → World → Prop) (e : Exit) (E : SEnv) (L : SHeap) : Prop := ∀ a w, SSat n a E → SSt lo s L w → Q e a w

theorem l_ends {E : SEnv} {L : SHeap} (h : SEnds n lo s Q .normal E L) : WPL P n lo s ops Q [] E L := fun a w ha hw => wpList_nil (h a w ha hw)
theorem lQ_ends {E : SEnv} {L : SHeap} (h : SEnds n lo s Q .normal E L) : WPQ P n lo s ops Q [] E L := fun a ha => wpQuiet_nil fun w hw => h a w ha hw
theorem c_skip {E : SEnv} {L : SHeap} (h : SEnds n lo s Q .normal E L) : WPC P n lo s .skip Q E L := fun a w ha hw => wp_skip (h a w ha hw)
theorem c_ret {E : SEnv} {L : SHeap} (h : SEnds n lo s Q .ret E L) : WPC P n lo s .ret Q E L := fun a w ha hw => wp_ret (h a w ha hw)
theorem c_exit {id : Nat} {E : SEnv} {L : SHeap} (h : SEnds n lo s Q (.exit id) E L) : WPC P n lo s (.exit id) Q E L := fun a w ha hw => wp_exit (h a w ha hw)
theorem c_label {l : Nat} {E : SEnv} {L : SHeap} (h : SEnds n lo s Q .normal E L) : WPC P n lo s (.label l) Q E L := fun a w ha hw => wp_label (h a w ha hw)
theorem c_block {id : Nat} {c : Code} {E : SEnv} {L : SHeap} (h : WPC P n lo s c (Exit.inBlock id Q) E L) : WPC P n lo s (.block id c) Q E L :=
  fun a w ha hw => wp_block (h a w ha hw)
theorem c_cond {c : Operand} {x y : Code} {b : Bool} {E : SEnv} {L : SHeap} (hb : sval E c = some (.bool b))
    (ht : b = true → WPC P n lo s x Q E L) (hf : b = false → WPC P n lo s y Q E L) : WPC P n lo s (.cond c x y) Q E L :=
  fun a w ha hw => wp_cond_split (ha.sval hb) (fun e => ht e a w ha hw) (fun e => hf e a w ha hw)

theorem e_then {K : Act → World → Prop} {E : SEnv} {L : SHeap} (e : Exit) (he : e ≠ .normal) (h : SEnds n lo s Q e E L) : SEnds n lo s (Exit.then K Q) e E L := by
  intro a w ha hw
  cases e <;> first | exact (he rfl).elim | exact h a w ha hw
theorem e_then_n {y : Code} {E : SEnv} {L : SHeap} (h : WPC P n lo s y Q E L) : SEnds n lo s (Exit.then (y.wp P Q) Q) .normal E L := fun a w ha hw => h a w ha hw
theorem e_block_n {id : Nat} {E : SEnv} {L : SHeap} (h : SEnds n lo s Q .normal E L) : SEnds n lo s (Exit.inBlock id Q) .normal E L := h
theorem e_block_r {id : Nat} {E : SEnv} {L : SHeap} (h : SEnds n lo s Q .ret E L) : SEnds n lo s (Exit.inBlock id Q) .ret E L := h
theorem e_block_x {id : Nat} {E : SEnv} {L : SHeap} (h : SEnds n lo s Q .normal E L) : SEnds n lo s (Exit.inBlock id Q) (.exit id) E L := by
  intro a w ha hw; simpa [Exit.inBlock] using h a w ha hw
theorem e_block_y {id id' : Nat} {E : SEnv} {L : SHeap} (hne : Nat.beq id' id = false) (h : SEnds n lo s Q (.exit id') E L) : SEnds n lo s (Exit.inBlock id Q) (.exit id') E L := by
  intro a w ha hw
  have : id' ≠ id := by intro e; subst e; simp at hne
  simpa [Exit.inBlock, this] using h a w ha hw

/-- A loop: whatever the index i stands for, at the head of a round the frame is E i, the heap L i; a round lowers the measure. -/
theorem c_loopG {ι : Type} {c : Code} {E : SEnv} {L : SHeap} (I : ι → Prop) (F : ι → SEnv) (H : ι → SHeap) (μ : ι → Nat) (i0 : ι) (h0 : I i0) (hE : ∀ a, SSat n a E → SSat n a (F i0)) (hL : ∀ w, SSt lo s L w → SSt lo s (H i0) w)
    (round : ∀ i, I i → WPC P n lo s c (Exit.then (fun a w => ∃ j, I j ∧ SSat n a (F j) ∧ SSt lo s (H j) w ∧ μ j < μ i) Q) (F i) (H i)) : WPC P n lo s (.loop c) Q E L := by
  intro a w ha hw b k cs
  have key : ∀ m i, μ i = m → I i → ∀ a w, SSat n a (F i) → SSt lo s (H i) w →
      ∃ e a' w', Q e a' w' ∧ Arrives P (lone (b.at a (.code c :: .inLoop c :: k)) cs w) b k cs e a' w' := by
    intro m
    induction m using Nat.strongRecOn with
    | _ m ih =>
      intro i hm hI a w ha hw
      obtain ⟨e, a₁, w₁, hq, harr⟩ := round i hI a w ha hw b (.inLoop c :: k) cs
      cases e with
      | normal =>
        obtain ⟨j, hj, ga, gw, hlt⟩ := hq
        obtain ⟨e₂, a₂, w₂, hq₂, harr₂⟩ := ih (μ j) (hm ▸ hlt) j rfl hj a₁ w₁ ga gw
        exact ⟨e₂, a₂, w₂, hq₂, .of_steps (Steps.trans harr (.one step_inLoop)) harr₂⟩
      | exit id => exact ⟨_, a₁, w₁, hq, .pass (x := .inLoop c) rfl (fun _ _ => .inl (by simp)) harr⟩
      | goto l => exact ⟨_, a₁, w₁, hq, .pass (x := .inLoop c) rfl (fun _ _ => .inl (by simp)) harr⟩
      | ret => exact ⟨_, a₁, w₁, hq, .pass (x := .inLoop c) rfl (fun _ _ => .inl (by simp)) harr⟩
      | panic ch => exact ⟨_, a₁, w₁, hq, .pass (x := .inLoop c) rfl (fun _ _ => .inl (by simp)) harr⟩
      | outgrown => exact ⟨_, a₁, w₁, hq, .pass (x := .inLoop c) rfl (fun _ _ => .inl (by simp)) harr⟩
  obtain ⟨e, a', w', hq, harr⟩ := key _ i0 rfl h0 a w (hE a ha) (hL w hw)
  exact ⟨e, a', w', hq, .of_steps (.one step_loop) harr⟩

theorem c_loop {ι : Type} {c : Code} {E : SEnv} {L : SHeap} (I : ι → Prop) (F : ι → SEnv) (H : ι → SHeap) (μ : ι → Nat) (i0 : ι) (h0 : I i0) (hE : SSub E (F i0)) (hL : ∀ w, SSt lo s L w → SSt lo s (H i0) w)
    (round : ∀ i, I i → WPC P n lo s c (Exit.then (fun a w => ∃ j, I j ∧ SSat n a (F j) ∧ SSt lo s (H j) w ∧ μ j < μ i) Q) (F i) (H i)) : WPC P n lo s (.loop c) Q E L :=
  c_loopG I F H μ i0 h0 (fun a ha => ha.sub hE) hL round

theorem e_round {ι : Type} {I : ι → Prop} {F : ι → SEnv} {H : ι → SHeap} {μ : ι → Nat} {i : ι} {E : SEnv} {L : SHeap} (j : ι) (hI : I j) (hE : SSub E (F j)) (hL : ∀ w, SSt lo s L w → SSt lo s (H j) w) (hμ : μ j < μ i) :
    SEnds n lo s (Exit.then (fun a w => ∃ j, I j ∧ SSat n a (F j) ∧ SSt lo s (H j) w ∧ μ j < μ i) Q) .normal E L :=
  fun a w ha hw => ⟨j, hI, ha.sub hE, hL w hw, hμ⟩

/-! entering and leaving -/
def szipFrom : Nat → List Value → SEnv → SEnv
  | _, [], E => E
  | i, v :: r, E => szipFrom (i + 1) r ((i, v) :: E)

end
end Sx

/-
  The engine, second part: the operations that only compute or read; entering and leaving a function; calls.
-/
namespace Sx
open Go

/-- Facts on a program's types, looked up by instance. -/
class SUnd (P : Program) (t : TypeId) (d : outParam TypeDesc) : Type where
  h : P.underlying t = some d
class SInf (P : Program) (t : TypeId) (z : outParam Value) (k b : outParam Nat) : Prop where
  h : (P.info? t).map (fun i => (i.zero, i.size, i.bytes)) = some (some z, k, b)
class SCallee (P : Program) (f : FuncId) : Prop where
  h : ∃ fn, P.funcs[f]? = some fn ∧ fn.body.isNone = false ∧ (fn.name == "runtime.NumGoroutine") = false

/-- field number i of a struct lies at 'off' and holds at least one cell -/
def fldOk (P : Program) (t : TypeId) (i off : Nat) : Bool :=
  match P.underlying t with
  | some (.struct fs) => match fs[i]? with
    | some f => f.offset == off && (match P.info? f.type with | some j => !(j.size == 0) | none => false)
    | none => false
  | _ => false
class SFld (P : Program) (t : TypeId) (i : Nat) (off : outParam Nat) : Prop where
  h : fldOk P t i off = true

theorem SInf.out {P : Program} {t : TypeId} {z : Value} {k b : Nat} (h : SInf P t z k b) : ∃ i, P.info? t = some i ∧ i.zero = some z ∧ i.size = k ∧ i.bytes = b := by
  have := h.h
  cases hi : P.info? t with
  | none => simp [hi] at this
  | some i => simp only [hi, Option.map_some, Option.some.injEq, Prod.mk.injEq] at this; exact ⟨i, rfl, this.1, this.2.1, this.2.2⟩

theorem srun_sizeOf {P : Program} {t : TypeId} {z : Value} {k b : Nat} [h : SInf P t z k b] (w : World) : (Go.sizeOf t).run P w = .ok k w := by
  obtain ⟨i, h1, h2, h3, h4⟩ := h.out
  simp [Go.sizeOf, typeInfo, h1, h3]
theorem srun_zeroValue {P : Program} {t : TypeId} {z : Value} {k b : Nat} [h : SInf P t z k b] (w : World) : (zeroValue t).run P w = .ok z w := by
  obtain ⟨i, h1, h2, h3, h4⟩ := h.out
  simp [zeroValue, typeInfo, h1, h2]
theorem srun_und {P : Program} {t : TypeId} {d : TypeDesc} [h : SUnd P t d] (w : World) : (underlying t).run P w = .ok d w := run_underlying h.h w

theorem srun_equalIn_bool {P : Program} {t : TypeId} [SUnd P t .bool] (d : Nat) (a b : Bool) (w : World) : (Op.equalIn (d + 1) t (.bool a) (.bool b)).run P w = .ok (a == b) w := by
  simp [Op.equalIn, srun_und]

def sisRow : TypeDesc → Bool | .struct _ | .array _ _ => true | _ => false
theorem srun_isAgg {P : Program} {t : TypeId} {d : TypeDesc} [h : SUnd P t d] (w : World) : (isAgg t).run P w = .ok (sisRow d) w := by
  simp only [isAgg, Sem.run_bind, srun_und, Result.andThen_ok]
  cases d <;> rfl

/-- the n-th of a list, the slice of a list: written out by plain unfolding -/
def snth : List Value → Nat → Option Value
  | [], _ => none
  | v :: _, 0 => some v
  | _ :: r, i + 1 => snth r i
theorem snth_eq : ∀ (l : List Value) (i : Nat), snth l i = l[i]?
  | [], _ => by simp [snth]
  | v :: r, 0 => by simp [snth]
  | v :: r, i + 1 => by simpa [snth] using snth_eq r i
def srevOnto : List Value → List Value → List Value
  | [], acc => acc
  | v :: r, acc => srevOnto r (v :: acc)
def sfinish : List Value → List Value → Option (List Value)
  | [], acc => some acc
  | v :: r, acc => sfinish r (v :: acc)
def scut' : List Value → Nat → Nat → List Value → Option (List Value)
  | _, 0, 0, acc => sfinish acc []
  | [], _, _, _ => none
  | v :: r, 0, k + 1, acc => scut' r 0 k (v :: acc)
  | _ :: r, o + 1, k, acc => scut' r o k acc
/-- cells o .. o + k of a list -/
def scut (l : List Value) (o k : Nat) : Option (List Value) := scut' l o k []
theorem sfinish_eq : ∀ (l acc : List Value), sfinish l acc = some (l.reverse ++ acc)
  | [], acc => rfl
  | v :: r, acc => by simp [sfinish, sfinish_eq r]
theorem scut'_eq : ∀ (l : List Value) (o k : Nat) (acc r : List Value), scut' l o k acc = some r → r = acc.reverse ++ (l.drop o).take k ∧ ((l.drop o).take k).length = k
  | l, 0, 0, acc, r, h => by
    have : sfinish acc [] = some r := by cases l <;> simpa [scut'] using h
    rw [sfinish_eq] at this
    simp at this; simp [this]
  | [], 0, k + 1, acc, r, h => by simp [scut'] at h
  | [], o + 1, k, acc, r, h => by simp [scut'] at h
  | v :: l, 0, k + 1, acc, r, h => by
    have := scut'_eq l 0 k (v :: acc) r (by simpa [scut'] using h)
    simp at this ⊢
    exact ⟨this.1, this.2⟩
  | v :: l, o + 1, k, acc, r, h => by
    have := scut'_eq l o k acc r (by simpa [scut'] using h)
    simpa using this
theorem scut_eq {l : List Value} {o k : Nat} {r : List Value} (h : scut l o k = some r) : r = (l.drop o).take k ∧ r.length = k := by
  have := scut'_eq l o k [] r h
  simp at this
  exact ⟨this.1, by rw [this.1, List.length_take, List.length_drop]; omega⟩

def svals' (E : SEnv) : List Operand → List Value → Option (List Value)
  | [], acc => sfinish acc []
  | x :: r, acc => match sval E x with
    | some v => svals' E r (v :: acc)
    | none => none
def svals (E : SEnv) (l : List Operand) : Option (List Value) := svals' E l []
theorem svals'_eq {n : Nat} {a : Act} {E : SEnv} (ha : SSat n a E) : ∀ (l : List Operand) (acc r : List Value), svals' E l acc = some r → r = acc.reverse ++ l.map a.eval
  | [], acc, r, h => by simp [svals', sfinish_eq] at h; simp [h]
  | x :: l, acc, r, h => by
    unfold svals' at h
    cases hv : Sx.sval E x with
    | none => simp [hv] at h
    | some v =>
      simp only [hv] at h
      have := svals'_eq ha l (v :: acc) r h
      simp [this, ha.sval hv]
theorem SSat.svals {n : Nat} {a : Act} {E : SEnv} (ha : SSat n a E) {l : List Operand} {r : List Value} (h : Sx.svals E l = some r) : l.map a.eval = r := by
  have := svals'_eq ha l [] r h
  simpa using this.symm

/-- a srow of cells as a block -/
def srow (l : List Value) (T : TypeId) : Obj := .cells l.toArray T (0, 0)

theorem SSt.cell {lo : SMut} {s w : World} {L : SHeap} (h : SSt lo s L w) {b o : Nat} {l : List Value} {T : TypeId} {v : Value} (hb : (b, srow l T) ∈ L.flatten) (hv : snth l o = some v) : w.cell? ⟨b, o, none⟩ = some v := by
  have := (h.blocks b _ hb).2
  rw [snth_eq] at hv
  simp [World.cell?, this, srow, hv]

theorem SSt.old {lo : SMut} {s w : World} {L : SHeap} (h : SSt lo s L w) {a : Addr} {v : Value} (hlo : lo = []) (hv : s.cell? a = some v) : w.cell? a = some v := by
  subst hlo; rw [h.below.cell (World.block_lt_of_cell? s a hv)]; exact hv

section
variable {P : Program} {n : Nat} {lo : SMut} {s : World} {E : SEnv} {L : SHeap} {d : Option Tmp} {ty : TypeId} {pos : String} {after : Array Edge} {g : Option (Nat × Bool)}

theorem ov_move {x : Operand} {v : Value} (hx : sval E x = some v) : SOpV P n lo s E L ⟨d, .move x, ty, pos, after, g⟩ v :=
  SOpV.of_run fun a ha w hw => by simp [execOp, ha.sval hx]
theorem ov_assign {x : Operand} {v : Value} (hx : sval E x = some v) : SOpV P n lo s E L ⟨d, .assign x, ty, pos, after, g⟩ v :=
  SOpV.of_run fun a ha w hw => by simp [execOp, ha.sval hx]
theorem ov_pick_t {c x y : Operand} {v : Value} (hc : sval E c = some (.bool true)) (hx : sval E x = some v) : SOpV P n lo s E L ⟨d, .pick c x y, ty, pos, after, g⟩ v :=
  SOpV.of_run fun a ha w hw => by simp [execOp, ha.sval hx, ha.sval hc, asBool]
theorem ov_pick_f {c x y : Operand} {v : Value} (hc : sval E c = some (.bool false)) (hy : sval E y = some v) : SOpV P n lo s E L ⟨d, .pick c x y, ty, pos, after, g⟩ v :=
  SOpV.of_run fun a ha w hw => by simp [execOp, ha.sval hy, ha.sval hc, asBool]

section
variable {x y : Operand} {xt yt : TypeId} {i j : Int}
theorem ov_add (hx : sval E x = some (.int .i64 i)) (hy : sval E y = some (.int .i64 j)) (h : -9223372036854775808 ≤ i + j ∧ i + j ≤ 9223372036854775807) :
    SOpV P n lo s E L ⟨d, .binOp .add xt x y yt, ty, pos, after, g⟩ (.int .i64 (i + j)) :=
  SOpV.of_run fun a ha w hw => by simp [execOp, eqGuard, binOp, Op.intArith, ha.sval hx, ha.sval hy, IntWalk.i64_in _ h]
theorem ov_sub (hx : sval E x = some (.int .i64 i)) (hy : sval E y = some (.int .i64 j)) (h : -9223372036854775808 ≤ i - j ∧ i - j ≤ 9223372036854775807) :
    SOpV P n lo s E L ⟨d, .binOp .sub xt x y yt, ty, pos, after, g⟩ (.int .i64 (i - j)) :=
  SOpV.of_run fun a ha w hw => by simp [execOp, eqGuard, binOp, Op.intArith, ha.sval hx, ha.sval hy, IntWalk.i64_in _ h]
theorem ov_mul (hx : sval E x = some (.int .i64 i)) (hy : sval E y = some (.int .i64 j)) (h : -9223372036854775808 ≤ i * j ∧ i * j ≤ 9223372036854775807) :
    SOpV P n lo s E L ⟨d, .binOp .mul xt x y yt, ty, pos, after, g⟩ (.int .i64 (i * j)) :=
  SOpV.of_run fun a ha w hw => by simp [execOp, eqGuard, binOp, Op.intArith, ha.sval hx, ha.sval hy, IntWalk.i64_in _ h]
theorem ov_addw (hx : sval E x = some (.int .i64 i)) (hy : sval E y = some (.int .i64 j)) :
    SOpV P n lo s E L ⟨d, .binOp .add xt x y yt, ty, pos, after, g⟩ (.int .i64 (IntKind.i64.wrap (i + j))) :=
  SOpV.of_run fun a ha w hw => by simp [execOp, eqGuard, binOp, Op.intArith, ha.sval hx, ha.sval hy]
theorem ov_subw (hx : sval E x = some (.int .i64 i)) (hy : sval E y = some (.int .i64 j)) :
    SOpV P n lo s E L ⟨d, .binOp .sub xt x y yt, ty, pos, after, g⟩ (.int .i64 (IntKind.i64.wrap (i - j))) :=
  SOpV.of_run fun a ha w hw => by simp [execOp, eqGuard, binOp, Op.intArith, ha.sval hx, ha.sval hy]
theorem ov_mulw (hx : sval E x = some (.int .i64 i)) (hy : sval E y = some (.int .i64 j)) :
    SOpV P n lo s E L ⟨d, .binOp .mul xt x y yt, ty, pos, after, g⟩ (.int .i64 (IntKind.i64.wrap (i * j))) :=
  SOpV.of_run fun a ha w hw => by simp [execOp, eqGuard, binOp, Op.intArith, ha.sval hx, ha.sval hy]
theorem ov_quo (hx : sval E x = some (.int .i64 i)) (hy : sval E y = some (.int .i64 j)) (h : 0 ≤ i ∧ i ≤ 9223372036854775807 ∧ 1 ≤ j) :
    SOpV P n lo s E L ⟨d, .binOp .quo xt x y yt, ty, pos, after, g⟩ (.int .i64 (i / j)) :=
  SOpV.of_run fun a ha w hw => by
    have hj : ¬ j = 0 := by omega
    simp [execOp, eqGuard, binOp, Op.intDiv, ha.sval hx, ha.sval hy, hj, IntWalk.i64_quo _ _ h]
theorem ov_quo' (hx : sval E x = some (.int .i64 i)) (hy : sval E y = some (.int .i64 j)) (h : -9223372036854775808 ≤ i ∧ i ≤ 9223372036854775807 ∧ 1 ≤ j) :
    SOpV P n lo s E L ⟨d, .binOp .quo xt x y yt, ty, pos, after, g⟩ (.int .i64 (i.tdiv j)) :=
  SOpV.of_run fun a ha w hw => by
    have hj : ¬ j = 0 := by omega
    simp [execOp, eqGuard, binOp, Op.intDiv, ha.sval hx, ha.sval hy, hj, IntWalk.i64_quo' _ _ h]
theorem ov_rem (hx : sval E x = some (.int .i64 i)) (hy : sval E y = some (.int .i64 j)) (h : 0 ≤ i ∧ 1 ≤ j) :
    SOpV P n lo s E L ⟨d, .binOp .rem xt x y yt, ty, pos, after, g⟩ (.int .i64 (i % j)) :=
  SOpV.of_run fun a ha w hw => by
    have hj : ¬ j = 0 := by omega
    simp [execOp, eqGuard, binOp, Op.intDiv, ha.sval hx, ha.sval hy, hj, Int.tmod_eq_emod_of_nonneg h.1]
theorem ov_rem' (hx : sval E x = some (.int .i64 i)) (hy : sval E y = some (.int .i64 j)) (h : j ≠ 0) :
    SOpV P n lo s E L ⟨d, .binOp .rem xt x y yt, ty, pos, after, g⟩ (.int .i64 (i.tmod j)) :=
  SOpV.of_run fun a ha w hw => by simp [execOp, eqGuard, binOp, Op.intDiv, ha.sval hx, ha.sval hy, h]
theorem ov_lss {k : IntKind} (hx : sval E x = some (.int k i)) (hy : sval E y = some (.int k j)) : SOpV P n lo s E L ⟨d, .binOp .lss xt x y yt, ty, pos, after, g⟩ (.bool (decide (i < j))) :=
  SOpV.of_run fun a ha w hw => by simp [execOp, eqGuard, binOp, Op.intCmp, ha.sval hx, ha.sval hy]
theorem ov_leq {k : IntKind} (hx : sval E x = some (.int k i)) (hy : sval E y = some (.int k j)) : SOpV P n lo s E L ⟨d, .binOp .leq xt x y yt, ty, pos, after, g⟩ (.bool (decide (i ≤ j))) :=
  SOpV.of_run fun a ha w hw => by simp [execOp, eqGuard, binOp, Op.intCmp, ha.sval hx, ha.sval hy]
theorem ov_gtr {k : IntKind} (hx : sval E x = some (.int k i)) (hy : sval E y = some (.int k j)) : SOpV P n lo s E L ⟨d, .binOp .gtr xt x y yt, ty, pos, after, g⟩ (.bool (decide (j < i))) :=
  SOpV.of_run fun a ha w hw => by simp [execOp, eqGuard, binOp, Op.intCmp, ha.sval hx, ha.sval hy]
theorem ov_geq {k : IntKind} (hx : sval E x = some (.int k i)) (hy : sval E y = some (.int k j)) : SOpV P n lo s E L ⟨d, .binOp .geq xt x y yt, ty, pos, after, g⟩ (.bool (decide (j ≤ i))) :=
  SOpV.of_run fun a ha w hw => by simp [execOp, eqGuard, binOp, Op.intCmp, ha.sval hx, ha.sval hy]
theorem ov_eql {k : IntKind} (hx : sval E x = some (.int k i)) (hy : sval E y = some (.int k j)) : SOpV P n lo s E L ⟨d, .binOp .eql xt x y yt, ty, pos, after, g⟩ (.bool (decide (i = j))) :=
  SOpV.of_run fun a ha w hw => by
    have : (i == j) = decide (i = j) := by by_cases h : i = j <;> simp [h]
    simp [execOp, eqGuard, binOp, Op.intCmp, ha.sval hx, ha.sval hy, this]
theorem ov_neq {k : IntKind} (hx : sval E x = some (.int k i)) (hy : sval E y = some (.int k j)) : SOpV P n lo s E L ⟨d, .binOp .neq xt x y yt, ty, pos, after, g⟩ (.bool (decide (i ≠ j))) :=
  SOpV.of_run fun a ha w hw => by
    have : (i != j) = decide (i ≠ j) := by by_cases h : i = j <;> simp [h]
    simp [execOp, eqGuard, binOp, Op.intCmp, ha.sval hx, ha.sval hy, this]
theorem ov_eqlb {p q : Bool} [SUnd P xt .bool] (hx : sval E x = some (.bool p)) (hy : sval E y = some (.bool q)) : SOpV P n lo s E L ⟨d, .binOp .eql xt x y yt, ty, pos, after, g⟩ (.bool (p == q)) :=
  SOpV.of_run fun a ha w hw => by simp [execOp, eqGuard, binOp, Op.equal, Op.maxDepth, ha.sval hx, ha.sval hy, srun_equalIn_bool 9999]
theorem ov_neqb {p q : Bool} [SUnd P xt .bool] (hx : sval E x = some (.bool p)) (hy : sval E y = some (.bool q)) : SOpV P n lo s E L ⟨d, .binOp .neq xt x y yt, ty, pos, after, g⟩ (.bool (p != q)) :=
  SOpV.of_run fun a ha w hw => by simp [execOp, eqGuard, binOp, Op.equal, Op.maxDepth, ha.sval hx, ha.sval hy, srun_equalIn_bool 9999]; cases p <;> cases q <;> rfl
theorem ov_not {p : Bool} (hx : sval E x = some (.bool p)) : SOpV P n lo s E L ⟨d, .unOp .not xt x, ty, pos, after, g⟩ (.bool !p) :=
  SOpV.of_run fun a ha w hw => by simp [execOp, Op.unary, ha.sval hx]
theorem ov_neg (hx : sval E x = some (.int .i64 i)) (h : -9223372036854775807 ≤ i ∧ i ≤ 9223372036854775807) : SOpV P n lo s E L ⟨d, .unOp .neg xt x, ty, pos, after, g⟩ (.int .i64 (-i)) :=
  SOpV.of_run fun a ha w hw => by simp [execOp, Op.unary, Op.intArith, ha.sval hx, IntWalk.i64_in (-i) (by omega)]
end

theorem ov_extract {x : Operand} {vs : Array Value} {i : Nat} {v : Value} (hx : sval E x = some (.tuple vs)) (hv : snth vs.toList i = some v) : SOpV P n lo s E L ⟨d, .extract x i, ty, pos, after, g⟩ v :=
  SOpV.of_run fun a ha w hw => by
    rw [snth_eq, Array.getElem?_toList] at hv
    simp [execOp, Instr.extract, ha.sval hx, hv]

/-! addresses, loads -/
theorem ov_fieldAddr {x : Operand} {st : TypeId} {i b o off : Nat} [hu : SFld P st i off] (hx : sval E x = some (.pointer (some ⟨b, o, none⟩))) :
    SOpV P n lo s E L ⟨d, .fieldAddr st x i, ty, pos, after, g⟩ (.pointer (some ⟨b, o + off, none⟩)) :=
  SOpV.of_run fun a ha w hw => by
    have h := hu.h
    unfold fldOk at h
    split at h
    · rename_i fs hfs
      split at h
      · rename_i f hf
        simp only [Bool.and_eq_true, beq_iff_eq] at h
        obtain ⟨h1, h2⟩ := h
        split at h2
        · rename_i j hj
          simp only [Bool.not_eq_true', beq_eq_false_iff_ne, ne_eq] at h2
          have h0 : (Go.sizeOf f.type).run P w = .ok j.size w := by simp [Go.sizeOf, typeInfo, hj]
          simp [execOp, Instr.fieldAt, Instr.sureAddr, ha.sval hx, run_underlying hfs, hf, fieldPlace, h0, Addr.add_lit, h2, h1]
        · cases h2
      · cases h
    · cases h

theorem ov_load {x : Operand} {t : TypeId} {b o : Nat} {l : List Value} {T : TypeId} {v : Value} {td : TypeDesc} [hu : SUnd P t td]
    (hx : sval E x = some (.pointer (some ⟨b, o, none⟩))) (hr : sisRow td = false) (hb : (b, srow l T) ∈ L.flatten) (hv : snth l o = some v) :
    SOpV P n lo s E L ⟨d, .load t x, ty, pos, after, g⟩ v :=
  SOpV.of_run fun a ha w hw => by
    simp [execOp, Instr.loadAt, Instr.sureAddr, ha.sval hx, loadVar, srun_isAgg, hr, hw.cell hb hv]

theorem ov_load_at {x : Operand} {t : TypeId} {A : Addr} {v : Value} {td : TypeDesc} [hu : SUnd P t td]
    (hx : sval E x = some (.pointer (some A))) (hr : sisRow td = false) (hv : ∀ w, SSt lo s L w → w.cell? A = some v) :
    SOpV P n lo s E L ⟨d, .load t x, ty, pos, after, g⟩ v :=
  SOpV.of_run fun a ha w hw => by
    simp [execOp, Instr.loadAt, Instr.sureAddr, ha.sval hx, loadVar, srun_isAgg, hr, hv w hw]

theorem ov_loadS {x : Operand} {t : TypeId} {b o : Nat} {l vs : List Value} {T : TypeId} {td : TypeDesc} {z : Value} {k by_ : Nat} [hu : SUnd P t td] [hi : SInf P t z k by_]
    (hx : sval E x = some (.pointer (some ⟨b, o, none⟩))) (hr : sisRow td = true) (hb : (b, srow l T) ∈ L.flatten) (hv : scut l o k = some vs) :
    SOpV P n lo s E L ⟨d, .load t x, ty, pos, after, g⟩ (.agg vs.toArray) :=
  SOpV.of_run fun a ha w hw => by
    obtain ⟨he, hl⟩ := scut_eq hv
    have h1 := run_loadCells_list (P := P) w ⟨b, o, none⟩ vs (fun j v hj => by
      rw [Addr.add_lit]
      refine hw.cell hb ?_
      rw [snth_eq]
      rw [he, List.getElem?_take] at hj
      split at hj
      · simpa using hj
      · cases hj)
    rw [hl] at h1
    simp [execOp, Instr.loadAt, Instr.sureAddr, ha.sval hx, loadVar, srun_isAgg, hr, srun_sizeOf, h1]

/-- a struct read out of memory whose cells are known -/
theorem ov_loadS_at {x : Operand} {t : TypeId} {b o : Nat} {vs : List Value} {td : TypeDesc} {z : Value} {k by_ : Nat} [hu : SUnd P t td] [hi : SInf P t z k by_]
    (hx : sval E x = some (.pointer (some ⟨b, o, none⟩))) (hr : sisRow td = true) (hl : vs.length = k) (hv : ∀ w, SSt lo s L w → ∀ j v, vs[j]? = some v → w.cell? ⟨b, o + j, none⟩ = some v) :
    SOpV P n lo s E L ⟨d, .load t x, ty, pos, after, g⟩ (.agg vs.toArray) :=
  SOpV.of_run fun a ha w hw => by
    have h1 := run_loadCells_list (P := P) w ⟨b, o, none⟩ vs (fun j v hj => by rw [Addr.add_lit]; exact hv w hw j v hj)
    rw [hl] at h1
    simp [execOp, Instr.loadAt, Instr.sureAddr, ha.sval hx, loadVar, srun_isAgg, hr, srun_sizeOf, h1]

theorem ov_indexAddr {x y : Operand} {t e : TypeId} {b o len cap : Nat} {i : Int} {z : Value} {k by_ : Nat} {ik : IntKind} [hu : SUnd P t (.slice e)] [hi : SInf P e z k by_]
    (hx : sval E x = some (.slice (some ⟨b, o, none⟩) len cap)) (hy : sval E y = some (.int ik i)) (h : 0 ≤ i ∧ i < len) :
    SOpV P n lo s E L ⟨d, .indexAddr t x y, ty, pos, after, g⟩ (.pointer (some ⟨b, o + i.toNat * k, none⟩)) :=
  SOpV.of_run fun a ha w hw => by
    simp [execOp, Instr.indexAt, asIntOf, ha.sval hx, ha.sval hy, srun_und, h.1, h.2, srun_sizeOf, Addr.add_lit]

theorem ov_indexAddrA {x y : Operand} {t e : TypeId} {b o len : Nat} {i : Int} {z : Value} {k by_ : Nat} {ik : IntKind} [hu : SUnd P t (.array len e)] [hi : SInf P e z k by_]
    (hx : sval E x = some (.pointer (some ⟨b, o, none⟩))) (hy : sval E y = some (.int ik i)) (h : 0 ≤ i ∧ i < len) :
    SOpV P n lo s E L ⟨d, .indexAddr t x y, ty, pos, after, g⟩ (.pointer (some ⟨b, o + i.toNat * k, none⟩)) :=
  SOpV.of_run fun a ha w hw => by
    simp [execOp, Instr.indexAt, Instr.sureAddr, asIntOf, ha.sval hx, ha.sval hy, srun_und, h.1, h.2, srun_sizeOf, Addr.add_lit]

theorem ov_nilCheck {x : Operand} {A : Addr} (hx : sval E x = some (.pointer (some A))) : SOpV P n lo s E L ⟨d, .nilCheck x, ty, pos, after, g⟩ (.pointer (some A)) :=
  SOpV.of_run fun a ha w hw => by simp [execOp, ha.sval hx]

theorem ov_len {x : Operand} {t e : TypeId} {A : Option Addr} {len cap : Nat} [hu : SUnd P t (.slice e)] (hx : sval E x = some (.slice A len cap)) :
    SOpV P n lo s E L ⟨d, .call { callee := .builtin .len, args := #[x], argTypes := #[t] }, ty, pos, after, g⟩ (.int .i64 len) :=
  SOpV.of_run fun a ha w hw => by simp [execOp, resolve, invoke, builtin, Builtin.len_, ha.sval hx, srun_und, goInt]

theorem ov_min {x y : Operand} {ts : Array TypeId} {i j : Int} {k k' : IntKind} (hx : sval E x = some (.int k i)) (hy : sval E y = some (.int k' j)) :
    SOpV P n lo s E L ⟨d, .call { callee := .builtin .min, args := #[x, y], argTypes := ts }, ty, pos, after, g⟩ (.int k (min i j)) :=
  SOpV.of_run fun a ha w hw => by
    have : (if j < i then j else i) = min i j := by omega
    simp [execOp, resolve, invoke, builtin, Builtin.min_, Builtin.min2, ha.sval hx, ha.sval hy, this]
theorem ov_max {x y : Operand} {ts : Array TypeId} {i j : Int} {k k' : IntKind} (hx : sval E x = some (.int k i)) (hy : sval E y = some (.int k' j)) :
    SOpV P n lo s E L ⟨d, .call { callee := .builtin .max, args := #[x, y], argTypes := ts }, ty, pos, after, g⟩ (.int k (max i j)) :=
  SOpV.of_run fun a ha w hw => by
    have : (if i < j then j else i) = max i j := by omega
    simp [execOp, resolve, invoke, builtin, Builtin.max_, Builtin.max2, ha.sval hx, ha.sval hy, this]

/-! calls -/
theorem srun_callFunc {f : FuncId} {args : Array Value} (hf : SCallee P f) (w : World) : (callFunc f args).run P w = .ok (.enter f args) w := by
  obtain ⟨fn, h1, h2, h3⟩ := hf.h
  have h4 : fn.body ≠ none := by intro e; simp [e] at h2
  have h5 : fn.name ≠ "runtime.NumGoroutine" := by simpa using h3
  simp [callFunc, h1, h4, h5]

/-- The callee hands back 'v' and leaves all that was there as it was. -/
structure SYields (P : Program) (f : FuncId) (args : Array Value) (v : Value) (w : World) : Prop where
  run : Calls P f args w fun e w' => e = .returned v ∧ RowKit.Below w.heap.size w w'

theorem ov_call {f : FuncId} {args : List Operand} {ts : Array TypeId} {vs : List Value} {v : Value} [hf : SCallee P f]
    (ha : svals E args = some vs) (hc : ∀ w, SSt lo s L w → SYields P f vs.toArray v w) :
    SOpV P n lo s E L ⟨d, .call { callee := .value (.func f), args := args.toArray, argTypes := ts }, ty, pos, after, g⟩ v := by
  intro a hs w hw
  unfold Oper.quietAt
  have h1 : (execOp a.eval ⟨d, .call { callee := .value (.func f), args := args.toArray, argTypes := ts }, ty, pos, after, g⟩).run P w = .ok (.enter f vs.toArray) w := by
    simp [execOp, resolve, Act.eval, Deferred.ofValue, invoke, srun_callFunc hf, ← hs.svals ha]
  rw [h1]
  exact ⟨rfl, (hc w hw).run.mono fun e w' ⟨he, hb⟩ => ⟨he, hw.grow hb⟩⟩

end

/-! entering and leaving -/
theorem slook_zipFrom : ∀ (l : List Value) (i : Nat) (E : SEnv) (t : Nat) (v : Value), slook (szipFrom i l E) t = some v → l[t - i]? = some v ∧ i ≤ t ∧ t < i + l.length ∨ slook E t = some v
  | [], i, E, t, v, h => .inr h
  | u :: r, i, E, t, v, h => by
    rcases slook_zipFrom r (i + 1) ((i, u) :: E) t v h with ⟨h1, h2, h3⟩ | k
    · refine .inl ⟨?_, by omega, by simp; omega⟩
      rw [show t - i = (t - (i + 1)) + 1 by omega]; simpa using h1
    · rw [slook_cons] at k
      split at k
      · rename_i e; subst e; obtain rfl := Option.some.inj k; exact .inl ⟨by simp, by omega, by simp⟩
      · exact .inr k

theorem s_enterG {lo : SMut} {L : SHeap} {P : Program} {f : FuncId} {fn : Func} {c : Code} {vs : List Value} {w : World} {R : Ending → World → Prop} {n : Nat}
    (hf : P.funcs[f]? = some fn) (hb : fn.body = some c) (hn : fn.ntmps = n) (hl : Nat.ble vs.length n = true)
    (hS : SSt lo w L w) (h : WPC P n lo w c (bodyPost P fn R) (szipFrom 0 vs []) L) : Calls P f vs.toArray w R := by
  refine calls_of_wp hf hb ?_
  have hl' : vs.length ≤ n := by simpa using hl
  refine h _ w ⟨rfl, ?_, fun t v hv => ?_⟩ hS
  · show (vs.toArray ++ Array.replicate (fn.ntmps - vs.toArray.size) undef).size = n
    simp [hn]; omega
  rcases slook_zipFrom vs 0 [] t v hv with ⟨h1, h2, h3⟩ | h1
  · have h1' : vs[t]? = some v := h1
    have h3' : t < vs.length := by omega
    show (vs.toArray ++ _).getD t undef = v
    rw [Array.getD_eq_getD_getElem?, Array.getElem?_append_left (by simpa using h3')]
    simp [h1']
  · simp [slook] at h1

theorem s_enter {P : Program} {f : FuncId} {fn : Func} {c : Code} {vs : List Value} {w : World} {R : Ending → World → Prop} {n : Nat}
    (hf : P.funcs[f]? = some fn) (hb : fn.body = some c) (hn : fn.ntmps = n) (hl : Nat.ble vs.length n = true)
    (h : WPC P n [] w c (bodyPost P fn R) (szipFrom 0 vs []) []) : Calls P f vs.toArray w R := s_enterG hf hb hn hl (SSt.init w) h

section
variable {P : Program} {n : Nat} {lo : SMut} {s : World} {E : SEnv} {L : SHeap} {fn : Func} {R : Ending → World → Prop}
theorem s_leave1 {t : Tmp} {v : Value} (hr : fn.results = #[.tmp t]) (hv : slook E t = some v) (h : ∀ w, SSt lo s L w → R (.returned v) w) : SEnds n lo s (bodyPost P fn R) .ret E L := by
  intro a w ha hw
  exact ⟨ha.defers, v, by rw [results_tmp hr, ha.slots t v hv], h w hw⟩
theorem s_leave2 {t u : Tmp} {v x : Value} (hr : fn.results = #[.tmp t, .tmp u]) (hv : slook E t = some v) (hx : slook E u = some x) (h : ∀ w, SSt lo s L w → R (.returned (.tuple #[v, x])) w) : SEnds n lo s (bodyPost P fn R) .ret E L := by
  intro a w ha hw
  exact ⟨ha.defers, _, by rw [results_tmp2 hr, ha.slots t v hv, ha.slots u x hx], h w hw⟩
theorem s_leave0 (hr : fn.results = #[]) (h : ∀ w, SSt lo s L w → R (.returned (.tuple #[])) w) : SEnds n lo s (bodyPost P fn R) .normal E L := by
  intro a w ha hw
  exact ⟨ha.defers, _, results_none hr _ _ _, h w hw⟩
/-- one result, a struct in memory -/
theorem s_leaveS {t : Tmp} {T U : TypeId} {b : Nat} {l : List Value} {td : TypeDesc} {z : Value} {k by_ : Nat} [hu : SUnd P T td] [hi : SInf P T z k by_] (hr : fn.results = #[.cell t T])
    (ht : slook E t = some (.pointer (some ⟨b, 0, none⟩))) (hd : sisRow td = true) (hb : (b, srow l U) ∈ L.flatten) (hl : l.length = k) (h : ∀ w, SSt lo s L w → R (.returned (.agg l.toArray)) w) : SEnds n lo s (bodyPost P fn R) .ret E L := by
  intro a w ha hw
  refine ⟨ha.defers, .agg l.toArray, ?_, h w hw⟩
  have h1 := run_loadCells_list (P := P) w ⟨b, 0, none⟩ l (fun j v hj => by rw [Addr.add_lit, Nat.zero_add]; exact hw.cell hb (by rw [snth_eq]; exact hj))
  rw [hl] at h1
  have hs := ha.slots t _ ht
  rw [Array.getD_eq_getD_getElem?] at hs
  simp [results, hr, hs, asAddr, loadVar, srun_isAgg, hd, srun_sizeOf, h1]
end

end Sx

/-
  The engine, third part: all plain operations in one step; writing: new blocks, stores.
-/
namespace Sx
open Go

/-- the value of an operation that only computes and needs no fact -/
def pureCmp (op : BinOp) (i j : Int) : Option Value :=
  match op with
  | .lss => some (.bool (decide (i < j)))
  | .leq => some (.bool (decide (i ≤ j)))
  | .gtr => some (.bool (decide (j < i)))
  | .geq => some (.bool (decide (j ≤ i)))
  | .eql => some (.bool (decide (i = j)))
  | .neq => some (.bool (decide (i ≠ j)))
  | _ => none

def pureOp (E : SEnv) (op : Op) : Option Value :=
  match op with
  | .move x => sval E x
  | .assign x => sval E x
  | .pick c a b => match sval E c with
    | some (.bool true) => sval E a
    | some (.bool false) => sval E b
    | _ => none
  | .binOp op _ x y _ => match sval E x, sval E y with
    | some (.int k i), some (.int k' j) => match k, k' with
      | .i64, .i64 => pureCmp op i j
      | .u8, .u8 => pureCmp op i j
      | _, _ => none
    | _, _ => none
  | .unOp .not _ x => match sval E x with
    | some (.bool b) => some (.bool !b)
    | _ => none
  | .extract x i => match sval E x with
    | some (.tuple ⟨vs⟩) => snth vs i
    | _ => none
  | .nilCheck x => match sval E x with
    | some (.pointer (some A)) => some (.pointer (some A))
    | _ => none
  | _ => none

theorem pureCmp_run {P : Program} {op : BinOp} {i j : Int} {v : Value} (h : pureCmp op i j = some v) (w : World) : (Op.intCmp op i j).run P w = .ok v w := by
  have e1 : (i == j) = decide (i = j) := by by_cases h : i = j <;> simp [h]
  have e2 : (i != j) = decide (i ≠ j) := by by_cases h : i = j <;> simp [h]
  cases op <;> simp only [pureCmp, Option.some.injEq, reduceCtorEq] at h <;> subst h <;> simp [Op.intCmp, e1, e2]

theorem pureCmp_op {op : BinOp} {i j : Int} {v : Value} (h : pureCmp op i j = some v) (k : IntKind) (t : TypeId) : binOp op t (.int k i) (.int k j) = Op.intCmp op i j := by
  cases op <;> first | (simp [pureCmp] at h; done) | simp [binOp]

section
variable {P : Program} {n : Nat} {lo : SMut} {s : World} {E : SEnv} {L : SHeap} {d : Option Tmp} {ty : TypeId} {pos : String} {after : Array Edge} {g : Option (Nat × Bool)}

theorem ov_cmp {op : BinOp} {x y : Operand} {xt yt : TypeId} {k : IntKind} {i j : Int} {v : Value} (hx : sval E x = some (.int k i)) (hy : sval E y = some (.int k j)) (h : pureCmp op i j = some v) :
    SOpV P n lo s E L ⟨d, .binOp op xt x y yt, ty, pos, after, g⟩ v :=
  SOpV.of_run fun a ha w hw => by
    have he : (eqGuard op xt x y (.int k i) (.int k j)).run P w = .ok () w := by
      unfold eqGuard; split <;> rfl
    simp [execOp, ha.sval hx, ha.sval hy, he, pureCmp_op h, pureCmp_run h]

theorem ov_pure {op : Op} {v : Value} (h : pureOp E op = some v) : SOpV P n lo s E L ⟨d, op, ty, pos, after, g⟩ v := by
  unfold pureOp at h
  split at h
  · exact ov_move h
  · exact ov_assign h
  · split at h
    · exact ov_pick_t (by assumption) h
    · exact ov_pick_f (by assumption) h
    · cases h
  · split at h
    · split at h
      · exact ov_cmp (by assumption) (by assumption) h
      · exact ov_cmp (by assumption) (by assumption) h
      · cases h
    · cases h
  · split at h
    · cases h; exact ov_not (by assumption)
    · cases h
  · split at h
    · exact ov_extract (by assumption) h
    · cases h
  · split at h
    · cases h; exact ov_nilCheck (by assumption)
    · cases h
  · cases h
end

/-- one cell rewritten, written out -/
def putN' : List Value → Nat → Value → List Value → Option (List Value)
  | [], _, _, _ => none
  | _ :: r, 0, v, acc => sfin r (v :: acc)
  | u :: r, i + 1, v, acc => putN' r i v (u :: acc)
where sfin : List Value → List Value → Option (List Value)
  | [], acc => sfinish acc []
  | u :: r, acc => sfin r (u :: acc)
def putN (l : List Value) (i : Nat) (v : Value) : Option (List Value) := putN' l i v []
theorem sfin_eq : ∀ (r acc : List Value), putN'.sfin r acc = some (acc.reverse ++ r)
  | [], acc => by simp [putN'.sfin, sfinish_eq]
  | u :: r, acc => by simp [putN'.sfin, sfin_eq r]
theorem putN'_eq : ∀ (l : List Value) (i : Nat) (v : Value) (acc r : List Value), putN' l i v acc = some r → r = acc.reverse ++ l.set i v ∧ i < l.length
  | [], i, v, acc, r, h => by simp [putN'] at h
  | u :: l, 0, v, acc, r, h => by
    simp only [putN', sfin_eq, Option.some.injEq] at h
    simp [← h]
  | u :: l, i + 1, v, acc, r, h => by
    have := putN'_eq l i v (u :: acc) r (by simpa [putN'] using h)
    simp at this ⊢
    exact this
theorem putN_eq {l : List Value} {i : Nat} {v : Value} {r : List Value} (h : putN l i v = some r) : r = l.set i v ∧ i < l.length := by
  simpa using putN'_eq l i v [] r h

/-- several cells rewritten, written out -/
def putM' : List Value → Nat → List Value → List Value → Option (List Value)
  | r, 0, [], acc => putN'.sfin r acc
  | _ :: r, 0, v :: vs, acc => putM' r 0 vs (v :: acc)
  | u :: r, i + 1, vs, acc => putM' r i vs (u :: acc)
  | [], _, _, _ => none
def putM (l : List Value) (i : Nat) (vs : List Value) : Option (List Value) := putM' l i vs []
theorem putM'_eq : ∀ (l : List Value) (i : Nat) (vs acc r : List Value), putM' l i vs acc = some r → r = acc.reverse ++ (l.take i ++ vs ++ l.drop (i + vs.length)) ∧ i + vs.length ≤ l.length
  | l, 0, [], acc, r, h => by
    have : putN'.sfin l acc = some r := by cases l <;> simpa [putM'] using h
    rw [sfin_eq] at this
    simp at this ⊢; simp [this]
  | u :: l, 0, v :: vs, acc, r, h => by
    have := putM'_eq l 0 vs (v :: acc) r (by simpa [putM'] using h)
    simp at this ⊢
    exact this
  | u :: l, i + 1, vs, acc, r, h => by
    have := putM'_eq l i vs (u :: acc) r (by simpa [putM'] using h)
    simp at this ⊢
    refine ⟨?_, by omega⟩
    rw [this.1, show i + 1 + vs.length = (i + vs.length) + 1 by omega, List.drop_succ_cons]
  | [], 0, v :: vs, acc, r, h => by simp [putM'] at h
  | [], i + 1, vs, acc, r, h => by simp [putM'] at h
theorem putM_eq {l : List Value} {i : Nat} {vs : List Value} {r : List Value} (h : putM l i vs = some r) : r = l.take i ++ vs ++ l.drop (i + vs.length) ∧ i + vs.length ≤ l.length := by
  simpa using putM'_eq l i vs [] r h

def oneCells : List Value → Bool
  | [] => true
  | v :: r => v.oneCell' && oneCells r
theorem oneCells_mem : ∀ {l : List Value}, oneCells l = true → ∀ v ∈ l, v.oneCell' = true
  | [], _, v, h => by simp at h
  | u :: r, h, v, hv => by
    simp only [oneCells, Bool.and_eq_true] at h
    rcases List.mem_cons.1 hv with rfl | hv
    · exact h.1
    · exact oneCells_mem h.2 v hv

theorem SSt.srow {lo : SMut} {s w : World} {L : SHeap} {b i : Nat} {l l' : List Value} {T : TypeId} (h : SSt lo s L w) (hi : getL L i = some [(b, Sx.srow l T)]) :
    SSt lo s (setL L i [(b, Sx.srow l' T)]) (w.setRow b l'.toArray) := by
  have hb := (h.blocks b _ (getL_flat hi (List.mem_singleton.2 rfl))).2
  refine h.setAt hi rfl rfl rfl (by simp [World.setRow]) ?_ (by simp) ?_ ?_
  · intro c o hm
    rw [List.mem_singleton] at hm
    cases hm
    exact setRow_heap w b l.toArray l'.toArray T (0, 0) hb
  · intro c o hm
    rw [List.mem_singleton] at hm
    cases hm
    exact .inl ⟨_, List.mem_singleton.2 rfl⟩
  · intro k _ hk
    have hne : k ≠ b := fun e => hk _ (by subst e; exact List.mem_singleton.2 rfl)
    simp only [World.setRow, Array.getElem?_modify]
    rw [if_neg (by omega)]

section
variable {P : Program} {n : Nat} {lo : SMut} {s : World} {ops : Array Oper} {Q : Exit → Act → World → Prop} {E : SEnv} {L : SHeap} {d : Nat} {ty : TypeId} {pos : String} {after : Array Edge} {rest : List Oper}

/-- An operation that yields a value in a new world. -/
theorem s_eff {op : Op} {E' : Act → Value → SEnv} (φ : World → Value → World → Prop)
    (hr : ∀ a w, SSat n a E → SSt lo s L w → ∃ v w', (execOp a.eval ⟨some d, op, ty, pos, after, none⟩).run P w = .ok (.value v) w' ∧ φ w v w') (hd : Nat.blt d n = true)
    (k : ∀ w v w', SSt lo s L w → φ w v w' → ∀ a, SSat n a ((d, v) :: E) → wpList P ops Q rest a w') : WPL P n lo s ops Q (⟨some d, op, ty, pos, after, none⟩ :: rest) E L := by
  intro a w ha hw
  refine wpList_plain rfl fun K hK => ?_
  obtain ⟨v, w', h1, h2⟩ := hr a w ha hw
  unfold Oper.wp
  rw [h1]
  exact hK _ _ (k w v w' hw h2 _ (ha.put hd v))

theorem s_box {T : TypeId} {x : Operand} {v : Value} (hx : sval E x = some v) (hd : Nat.blt d n = true)
    (k : ∀ b, s.heap.size ≤ b → WPL P n lo s ops Q rest ((d, .pointer (some ⟨b, 0, none⟩)) :: E) ([(b, srow v.cells.toList T)] :: L)) :
    WPL P n lo s ops Q (⟨some d, .box T x, ty, pos, after, none⟩ :: rest) E L := by
  refine s_eff (E' := fun _ _ => []) (fun w u w' => u = .pointer (some ⟨w.heap.size, 0, none⟩) ∧ w' = w.alloc (srow v.cells.toList T)) (fun a w ha hw => ⟨_, _, ?_, rfl, rfl⟩) hd ?_
  · simp [execOp, Instr.box, newVar, newRow, ha.sval hx]
    rfl
  · rintro w u w' hw ⟨rfl, rfl⟩ a ha
    exact k w.heap.size hw.hi a _ ha (hw.alloc _)

/-- a struct is boxed -/
theorem s_boxS {T : TypeId} {x : Operand} {l : List Value} (hx : sval E x = some (.agg l.toArray)) (hd : Nat.blt d n = true)
    (k : ∀ b, s.heap.size ≤ b → WPL P n lo s ops Q rest ((d, .pointer (some ⟨b, 0, none⟩)) :: E) ([(b, srow l T)] :: L)) :
    WPL P n lo s ops Q (⟨some d, .box T x, ty, pos, after, none⟩ :: rest) E L :=
  s_box hx hd (by simpa [Value.cells] using k)

/-- one cell is boxed -/
theorem s_box1 {T : TypeId} {x : Operand} {v : Value} (hx : sval E x = some v) (h1 : v.oneCell' = true) (hd : Nat.blt d n = true)
    (k : ∀ b, s.heap.size ≤ b → WPL P n lo s ops Q rest ((d, .pointer (some ⟨b, 0, none⟩)) :: E) ([(b, srow [v] T)] :: L)) :
    WPL P n lo s ops Q (⟨some d, .box T x, ty, pos, after, none⟩ :: rest) E L :=
  s_box hx hd (by
    have : v.cells = #[v] := by cases v <;> first | rfl | simp [Value.oneCell'] at h1
    rw [this]; exact k)

theorem s_allocS {T : TypeId} {l : List Value} {kk by_ : Nat} [hi : SInf P T (.agg l.toArray) kk by_] (hd : Nat.blt d n = true)
    (k : ∀ b, s.heap.size ≤ b → WPL P n lo s ops Q rest ((d, .pointer (some ⟨b, 0, none⟩)) :: E) ([(b, srow l T)] :: L)) :
    WPL P n lo s ops Q (⟨some d, .alloc T, ty, pos, after, none⟩ :: rest) E L := by
  refine s_eff (E' := fun _ _ => []) (fun w u w' => u = .pointer (some ⟨w.heap.size, 0, none⟩) ∧ w' = w.alloc (srow l T)) (fun a w ha hw => ⟨_, _, ?_, rfl, rfl⟩) hd ?_
  · simp [execOp, Instr.alloc, newVar, newRow, srun_zeroValue, Value.cells]
    rfl
  · rintro w u w' hw ⟨rfl, rfl⟩ a ha
    exact k w.heap.size hw.hi a _ ha (hw.alloc _)

theorem s_alloc1 {T : TypeId} {v : Value} {kk by_ : Nat} [hi : SInf P T v kk by_] (h1 : v.oneCell' = true) (hd : Nat.blt d n = true)
    (k : ∀ b, s.heap.size ≤ b → WPL P n lo s ops Q rest ((d, .pointer (some ⟨b, 0, none⟩)) :: E) ([(b, srow [v] T)] :: L)) :
    WPL P n lo s ops Q (⟨some d, .alloc T, ty, pos, after, none⟩ :: rest) E L := by
  have hc : v.cells = #[v] := by cases v <;> first | rfl | simp [Value.oneCell'] at h1
  refine s_eff (E' := fun _ _ => []) (fun w u w' => u = .pointer (some ⟨w.heap.size, 0, none⟩) ∧ w' = w.alloc (srow [v] T)) (fun a w ha hw => ⟨_, _, ?_, rfl, rfl⟩) hd ?_
  · simp [execOp, Instr.alloc, newVar, newRow, srun_zeroValue, hc]
    rfl
  · rintro w u w' hw ⟨rfl, rfl⟩ a ha
    exact k w.heap.size hw.hi a _ ha (hw.alloc _)

/-- a store of one cell or more into a known block -/
theorem s_storeG {T U : TypeId} {x y : Operand} {b o i kk by_ : Nat} {z v : Value} {l l' : List Value} [hi : SInf P T z kk by_]
    (hx : sval E x = some (.pointer (some ⟨b, o, none⟩))) (hy : sval E y = some v) (hb : getL L i = some [(b, srow l U)]) (hk : v.cells.size = kk) (h1 : ∀ u ∈ v.cells.toList, u.oneCell' = true)
    (hl : l' = l.take o ++ v.cells.toList ++ l.drop (o + v.cells.toList.length)) (hle : o + v.cells.toList.length ≤ l.length)
    (k : WPL P n lo s ops Q rest E (setL L i [(b, srow l' U)])) : WPL P n lo s ops Q (⟨none, .store T x y, ty, pos, after, none⟩ :: rest) E L := by
  intro a w ha hw
  refine wpList_plain rfl fun K hK => ?_
  have hc := (hw.blocks b _ (getL_flat hb (List.mem_singleton.2 rfl))).2
  have hst := run_storeCells_at P b o U v.cells.toList 0 l.toArray w hc (by simpa using hle) h1
  have hr : (execOp a.eval ⟨none, .store T x y, ty, pos, after, none⟩).run P w = .ok .skip (w.setRow b l'.toArray) := by
    simp only [Nat.add_zero] at hst
    simp [execOp, Instr.storeAt, Instr.sureAddr, ha.sval hx, ha.sval hy, storeVar, srun_sizeOf, hk, hst, hl]
  unfold Oper.wp
  rw [hr]
  exact hK _ _ (k _ _ ha (hw.srow hb))

theorem s_store1 (i : Nat) {T U : TypeId} {x y : Operand} {b o by_ : Nat} {z v : Value} {l l' : List Value} [hi : SInf P T z 1 by_]
    (hx : sval E x = some (.pointer (some ⟨b, o, none⟩))) (hy : sval E y = some v) (hb : getL L i = some [(b, srow l U)]) (h1 : v.oneCell' = true) (hl : putN l o v = some l')
    (k : WPL P n lo s ops Q rest E (setL L i [(b, srow l' U)])) : WPL P n lo s ops Q (⟨none, .store T x y, ty, pos, after, none⟩ :: rest) E L := by
  have hc : v.cells = #[v] := by cases v <;> first | rfl | simp [Value.oneCell'] at h1
  obtain ⟨e, hlt⟩ := putN_eq hl
  refine s_storeG hx hy hb (by simp [hc]) (by simpa [hc] using h1) ?_ (by simp [hc]; omega) k
  rw [e, hc]
  simp [List.set_eq_take_append_cons_drop, hlt]

theorem s_storeS (i : Nat) {T U : TypeId} {x y : Operand} {b o kk by_ : Nat} {z : Value} {vs l l' : List Value} [hi : SInf P T z kk by_]
    (hx : sval E x = some (.pointer (some ⟨b, o, none⟩))) (hy : sval E y = some (.agg vs.toArray)) (hb : getL L i = some [(b, srow l U)]) (hk : vs.length = kk) (h1 : oneCells vs = true) (hl : putM l o vs = some l')
    (k : WPL P n lo s ops Q rest E (setL L i [(b, srow l' U)])) : WPL P n lo s ops Q (⟨none, .store T x y, ty, pos, after, none⟩ :: rest) E L := by
  obtain ⟨e, hlt⟩ := putM_eq hl
  exact s_storeG hx hy hb (by simpa [Value.cells] using hk) (by simpa [Value.cells] using oneCells_mem h1) (by simpa [Value.cells] using e) (by simpa [Value.cells] using hlt) k

/-- loads, by the block's place -/
theorem s_load (i : Nat) {x : Operand} {t T : TypeId} {b o : Nat} {l : List Value} {v : Value} {td : TypeDesc} [hu : SUnd P t td]
    (hx : sval E x = some (.pointer (some ⟨b, o, none⟩))) (hb : getL L i = some [(b, srow l T)]) (hr : sisRow td = false) (hv : snth l o = some v) (hd : Nat.blt d n = true)
    (k : WPL P n lo s ops Q rest ((d, v) :: E) L) : WPL P n lo s ops Q (⟨some d, .load t x, ty, pos, after, none⟩ :: rest) E L :=
  s_step (ov_load hx hr (getL_flat hb (List.mem_singleton.2 rfl)) hv) hd k
theorem s_loadS (i : Nat) {x : Operand} {t T : TypeId} {b o kk by_ : Nat} {l vs : List Value} {z : Value} {td : TypeDesc} [hu : SUnd P t td] [hi : SInf P t z kk by_]
    (hx : sval E x = some (.pointer (some ⟨b, o, none⟩))) (hb : getL L i = some [(b, srow l T)]) (hr : sisRow td = true) (hv : scut l o kk = some vs) (hd : Nat.blt d n = true)
    (k : WPL P n lo s ops Q rest ((d, .agg vs.toArray) :: E) L) : WPL P n lo s ops Q (⟨some d, .load t x, ty, pos, after, none⟩ :: rest) E L :=
  s_step (ov_loadS hx hr (getL_flat hb (List.mem_singleton.2 rfl)) hv) hd k
end

/-! exits -/
section
variable {P : Program} {n : Nat} {lo : SMut} {s : World} {Q : Exit → Act → World → Prop} {K : Act → World → Prop} {E : SEnv} {L : SHeap}
theorem e_then_r (h : SEnds n lo s Q .ret E L) : SEnds n lo s (Exit.then K Q) .ret E L := h
theorem e_then_x {id : Nat} (h : SEnds n lo s Q (.exit id) E L) : SEnds n lo s (Exit.then K Q) (.exit id) E L := h
theorem c_cond_t {c : Operand} {x y : Code} (hb : sval E c = some (.bool true)) (h : WPC P n lo s x Q E L) : WPC P n lo s (.cond c x y) Q E L :=
  c_cond hb (fun _ => h) (fun h => by cases h)
theorem c_cond_f {c : Operand} {x y : Code} (hb : sval E c = some (.bool false)) (h : WPC P n lo s y Q E L) : WPC P n lo s (.cond c x y) Q E L :=
  c_cond hb (fun h => by cases h) (fun _ => h)
theorem c_cond_d {c : Operand} {x y : Code} {p : Prop} [Decidable p] (hb : sval E c = some (.bool (decide p)))
    (ht : p → WPC P n lo s x Q E L) (hf : ¬ p → WPC P n lo s y Q E L) : WPC P n lo s (.cond c x y) Q E L :=
  c_cond hb (fun h => ht (by simpa using h)) (fun h => hf (by simpa using h))
theorem c_cond_n {c : Operand} {x y : Code} {p : Prop} [Decidable p] (hb : sval E c = some (.bool (!decide p)))
    (ht : ¬ p → WPC P n lo s x Q E L) (hf : p → WPC P n lo s y Q E L) : WPC P n lo s (.cond c x y) Q E L :=
  c_cond hb (fun h => ht (by simpa using h)) (fun h => hf (by simpa using h))
theorem c_cond_nb {c : Operand} {x y : Code} {b : Bool} (hb : sval E c = some (.bool (!b)))
    (ht : b = false → WPC P n lo s x Q E L) (hf : b = true → WPC P n lo s y Q E L) : WPC P n lo s (.cond c x y) Q E L :=
  c_cond hb (fun h => ht (by simpa using h)) (fun h => hf (by simpa using h))
section
variable {ops : Array Oper} {dst : Option Tmp} {op : Op} {ty : TypeId} {pos : String} {after : Array Edge} {rest : List Oper} {j t : Nat} {want : Bool}
theorem s_split_d {p : Prop} [Decidable p] (hj : sgslot ops j = some t) (hb : slook E t = some (.bool (decide p)))
    (y : p → WPL P n lo s ops Q (⟨dst, op, ty, pos, after, some (j, want)⟩ :: rest) ((t, .bool true) :: E) L)
    (z : ¬ p → WPL P n lo s ops Q (⟨dst, op, ty, pos, after, some (j, want)⟩ :: rest) ((t, .bool false) :: E) L) : WPL P n lo s ops Q (⟨dst, op, ty, pos, after, some (j, want)⟩ :: rest) E L :=
  s_split hj hb (fun h => y (by simpa using h)) (fun h => z (by simpa using h))
theorem s_split_n {p : Prop} [Decidable p] (hj : sgslot ops j = some t) (hb : slook E t = some (.bool (!decide p)))
    (y : ¬ p → WPL P n lo s ops Q (⟨dst, op, ty, pos, after, some (j, want)⟩ :: rest) ((t, .bool true) :: E) L)
    (z : p → WPL P n lo s ops Q (⟨dst, op, ty, pos, after, some (j, want)⟩ :: rest) ((t, .bool false) :: E) L) : WPL P n lo s ops Q (⟨dst, op, ty, pos, after, some (j, want)⟩ :: rest) E L :=
  s_split hj hb (fun h => y (by simpa using h)) (fun h => z (by simpa using h))
theorem s_split_nb {b : Bool} (hj : sgslot ops j = some t) (hb : slook E t = some (.bool (!b)))
    (y : b = false → WPL P n lo s ops Q (⟨dst, op, ty, pos, after, some (j, want)⟩ :: rest) ((t, .bool true) :: E) L)
    (z : b = true → WPL P n lo s ops Q (⟨dst, op, ty, pos, after, some (j, want)⟩ :: rest) ((t, .bool false) :: E) L) : WPL P n lo s ops Q (⟨dst, op, ty, pos, after, some (j, want)⟩ :: rest) E L :=
  s_split hj hb (fun h => y (by simpa using h)) (fun h => z (by simpa using h))
theorem s_splitQ_d {p : Prop} [Decidable p] (hj : sgslot ops j = some t) (hb : slook E t = some (.bool (decide p)))
    (y : p → WPQ P n lo s ops Q (⟨dst, op, ty, pos, after, some (j, want)⟩ :: rest) ((t, .bool true) :: E) L)
    (z : ¬ p → WPQ P n lo s ops Q (⟨dst, op, ty, pos, after, some (j, want)⟩ :: rest) ((t, .bool false) :: E) L) : WPQ P n lo s ops Q (⟨dst, op, ty, pos, after, some (j, want)⟩ :: rest) E L :=
  s_splitQ hj hb (fun h => y (by simpa using h)) (fun h => z (by simpa using h))
theorem s_splitQ_n {p : Prop} [Decidable p] (hj : sgslot ops j = some t) (hb : slook E t = some (.bool (!decide p)))
    (y : ¬ p → WPQ P n lo s ops Q (⟨dst, op, ty, pos, after, some (j, want)⟩ :: rest) ((t, .bool true) :: E) L)
    (z : p → WPQ P n lo s ops Q (⟨dst, op, ty, pos, after, some (j, want)⟩ :: rest) ((t, .bool false) :: E) L) : WPQ P n lo s ops Q (⟨dst, op, ty, pos, after, some (j, want)⟩ :: rest) E L :=
  s_splitQ hj hb (fun h => y (by simpa using h)) (fun h => z (by simpa using h))
theorem s_splitQ_nb {b : Bool} (hj : sgslot ops j = some t) (hb : slook E t = some (.bool (!b)))
    (y : b = false → WPQ P n lo s ops Q (⟨dst, op, ty, pos, after, some (j, want)⟩ :: rest) ((t, .bool true) :: E) L)
    (z : b = true → WPQ P n lo s ops Q (⟨dst, op, ty, pos, after, some (j, want)⟩ :: rest) ((t, .bool false) :: E) L) : WPQ P n lo s ops Q (⟨dst, op, ty, pos, after, some (j, want)⟩ :: rest) E L :=
  s_splitQ hj hb (fun h => y (by simpa using h)) (fun h => z (by simpa using h))
end
theorem ret_true {p : Prop} [Decidable p] (h : p) : Ending.returned (.bool true) = .returned (.bool (decide p)) := by simp [h]
theorem ret_false {p : Prop} [Decidable p] (h : ¬ p) : Ending.returned (.bool false) = .returned (.bool (decide p)) := by simp [h]
theorem ret_dec {p q : Prop} [Decidable p] [Decidable q] (h : p ↔ q) : Ending.returned (.bool (decide p)) = .returned (.bool (decide q)) := by simp [h]
theorem ret_int {i j : Int} (h : i = j) : Ending.returned (.int .i64 i) = .returned (.int .i64 j) := by rw [h]
end
end Sx

/-
  The engine, fourth part: bits.
-/
namespace Sx
open Go

theorem ofInt_toNat_nonneg {i : Int} (h : 0 ≤ i ∧ i ≤ 9223372036854775807) : (BitVec.ofInt 64 i).toNat = i.toNat := by
  rw [BitVec.toNat_ofInt]; omega

theorem wrap_nat {m : Nat} (h : m < 9223372036854775808) : IntKind.i64.wrap (m : Int) = m := IntWalk.i64_in _ (by omega)

section
variable {P : Program} {n : Nat} {lo : SMut} {s : World} {E : SEnv} {L : SHeap} {d : Option Tmp} {ty : TypeId} {pos : String} {after : Array Edge} {g : Option (Nat × Bool)} {x y : Operand} {xt yt : TypeId} {i j : Int}

theorem ov_and (hx : sval E x = some (.int .i64 i)) (hy : sval E y = some (.int .i64 j)) (hi : 0 ≤ i ∧ i ≤ 9223372036854775807) (hj : 0 ≤ j ∧ j ≤ 9223372036854775807) :
    SOpV P n lo s E L ⟨d, .binOp .and xt x y yt, ty, pos, after, g⟩ (.int .i64 ((i.toNat &&& j.toNat : Nat) : Int)) :=
  SOpV.of_run fun a ha w hw => by
    have h1 : ((BitVec.ofInt 64 i &&& BitVec.ofInt 64 j).toNat : Int) = ((i.toNat &&& j.toNat : Nat) : Int) := by
      rw [BitVec.toNat_and, ofInt_toNat_nonneg hi, ofInt_toNat_nonneg hj]
    have h2 : (i.toNat &&& j.toNat) ≤ i.toNat := Nat.and_le_left
    have h3 := wrap_nat (m := i.toNat &&& j.toNat) (by omega)
    have : (execOp a.eval ⟨d, .binOp .and xt x y yt, ty, pos, after, g⟩).run P w = .ok (.value (.int .i64 (IntKind.i64.wrap ((BitVec.ofInt 64 i &&& BitVec.ofInt 64 j).toNat : Int)))) w := by
      simp only [execOp, eqGuard, binOp, Op.intBits, ha.sval hx, ha.sval hy]
      rfl
    rw [this, h1, h3]

theorem ov_or (hx : sval E x = some (.int .i64 i)) (hy : sval E y = some (.int .i64 j)) (hi : 0 ≤ i ∧ i ≤ 9223372036854775807) (hj : 0 ≤ j ∧ j ≤ 9223372036854775807) :
    SOpV P n lo s E L ⟨d, .binOp .or xt x y yt, ty, pos, after, g⟩ (.int .i64 ((i.toNat ||| j.toNat : Nat) : Int)) :=
  SOpV.of_run fun a ha w hw => by
    have h2 : (i.toNat ||| j.toNat) < 2 ^ 63 := Nat.or_lt_two_pow (by omega) (by omega)
    have h3 := wrap_nat (m := i.toNat ||| j.toNat) (by omega)
    have h1 : ((BitVec.ofInt 64 i ||| BitVec.ofInt 64 j).toNat : Int) = ((i.toNat ||| j.toNat : Nat) : Int) := by
      rw [BitVec.toNat_or, ofInt_toNat_nonneg hi, ofInt_toNat_nonneg hj]
    have : (execOp a.eval ⟨d, .binOp .or xt x y yt, ty, pos, after, g⟩).run P w = .ok (.value (.int .i64 (IntKind.i64.wrap ((BitVec.ofInt 64 i ||| BitVec.ofInt 64 j).toNat : Int)))) w := by
      simp only [execOp, eqGuard, binOp, Op.intBits, ha.sval hx, ha.sval hy]
      rfl
    rw [this, h1, h3]

/-- and with 2^m - 1, whatever the sign -/
theorem ov_mask (m : Nat) (hx : sval E x = some (.int .i64 i)) (hy : sval E y = some (.int .i64 j)) (hj : j = 2 ^ m - 1) (hm : m ≤ 62) :
    SOpV P n lo s E L ⟨d, .binOp .and xt x y yt, ty, pos, after, g⟩ (.int .i64 (i % 2 ^ m)) :=
  SOpV.of_run fun a ha w hw => by
    have hpow : (2 : Nat) ^ m ≤ 2 ^ 62 := Nat.pow_le_pow_right (by omega) hm
    have hcast : ((2 ^ m : Nat) : Int) = (2 : Int) ^ m := by simp
    have hpos : 0 < (2 : Nat) ^ m := Nat.pos_of_ne_zero (by simp)
    have hjn : (BitVec.ofInt 64 j).toNat = 2 ^ m - 1 := by
      rw [ofInt_toNat_nonneg (by omega)]; omega
    have hin : ((BitVec.ofInt 64 i).toNat : Int) = i % 2 ^ 64 := by
      rw [BitVec.toNat_ofInt]; have := Int.emod_nonneg i (b := 2 ^ 64) (by simp); omega
    have h1 : ((BitVec.ofInt 64 i &&& BitVec.ofInt 64 j).toNat : Int) = i % 2 ^ m := by
      rw [BitVec.toNat_and, hjn, Nat.and_two_pow_sub_one_eq_mod]
      rw [Int.natCast_emod, hin, hcast]
      have hd : ((2 : Int) ^ m) ∣ 2 ^ 64 := ⟨2 ^ (64 - m), by rw [← Int.pow_add]; congr 1; omega⟩
      exact Int.emod_emod_of_dvd i hd
    have h4 : 0 ≤ i % 2 ^ m := Int.emod_nonneg _ (by omega)
    have h5 : i % 2 ^ m < 2 ^ m := Int.emod_lt_of_pos _ (by omega)
    have h3 : IntKind.i64.wrap (i % 2 ^ m) = i % 2 ^ m := IntWalk.i64_in _ (by omega)
    have : (execOp a.eval ⟨d, .binOp .and xt x y yt, ty, pos, after, g⟩).run P w = .ok (.value (.int .i64 (IntKind.i64.wrap ((BitVec.ofInt 64 i &&& BitVec.ofInt 64 j).toNat : Int)))) w := by
      simp only [execOp, eqGuard, binOp, Op.intBits, ha.sval hx, ha.sval hy]
      rfl
    rw [this, h1, h3]

theorem ov_shl {kj : IntKind} (hx : sval E x = some (.int .i64 i)) (hy : sval E y = some (.int kj j)) (hj : 0 ≤ j ∧ j ≤ 62) (hb : -9223372036854775808 ≤ i * 2 ^ j.toNat ∧ i * 2 ^ j.toNat ≤ 9223372036854775807) :
    SOpV P n lo s E L ⟨d, .binOp .shl xt x y yt, ty, pos, after, g⟩ (.int .i64 (i * 2 ^ j.toNat)) :=
  SOpV.of_run fun a ha w hw => by
    have h0 : ¬ j < 0 := by omega
    have h1 : min j.toNat (IntKind.bits .i64) = j.toNat := by simp [IntKind.bits]; omega
    simp [execOp, eqGuard, binOp, Op.shift, ha.sval hx, ha.sval hy, h0, h1, IntWalk.i64_in _ hb]

theorem ov_shr {kj : IntKind} (hx : sval E x = some (.int .i64 i)) (hy : sval E y = some (.int kj j)) (hj : 0 ≤ j ∧ j ≤ 62) :
    SOpV P n lo s E L ⟨d, .binOp .shr xt x y yt, ty, pos, after, g⟩ (.int .i64 (i / 2 ^ j.toNat)) :=
  SOpV.of_run fun a ha w hw => by
    have h0 : ¬ j < 0 := by omega
    have h1 : min j.toNat (IntKind.bits .i64) = j.toNat := by simp [IntKind.bits]; omega
    have h2 : i.fdiv (2 ^ j.toNat) = i / 2 ^ j.toNat := Int.fdiv_eq_ediv_of_nonneg _ (Int.le_of_lt (Int.pow_pos (by omega)))
    simp [execOp, eqGuard, binOp, Op.shift, ha.sval hx, ha.sval hy, h0, h1, h2]

theorem ov_shlN (m : Nat) (p : Int) (hp : (2 : Int) ^ m = p) (hm : m ≤ 62) {kj : IntKind} (hx : sval E x = some (.int .i64 i)) (hy : sval E y = some (.int kj (m : Int))) (hb : -9223372036854775808 ≤ i * p ∧ i * p ≤ 9223372036854775807) :
    SOpV P n lo s E L ⟨d, .binOp .shl xt x y yt, ty, pos, after, g⟩ (.int .i64 (i * p)) := by
  subst hp
  have := ov_shl (P := P) (n := n) (lo := lo) (s := s) (L := L) (d := d) (ty := ty) (pos := pos) (after := after) (g := g) (xt := xt) (yt := yt) hx hy (by omega) (by simpa using hb)
  simpa using this

theorem ov_shrN (m : Nat) (p : Int) (hp : (2 : Int) ^ m = p) (hm : m ≤ 62) {kj : IntKind} (hx : sval E x = some (.int .i64 i)) (hy : sval E y = some (.int kj (m : Int))) :
    SOpV P n lo s E L ⟨d, .binOp .shr xt x y yt, ty, pos, after, g⟩ (.int .i64 (i / p)) := by
  subst hp
  have := ov_shr (P := P) (n := n) (lo := lo) (s := s) (L := L) (d := d) (ty := ty) (pos := pos) (after := after) (g := g) (xt := xt) (yt := yt) hx hy (by omega)
  simpa using this
end
end Sx

/-
  The engine, fifth part: a region that draws its order and holds operations with effects. What only reads is taken first, in an order that is handed over; what has an effect comes up alone.
-/
namespace Sx
open Go

section
variable {P : Program} {ops : Array Oper} {Q : Exit → Act → World → Prop} {md : Region.Mode} {S : World → Prop} {tail : Option Nat}

/-- A panic's end does not look at the temporaries. -/
class PanicAny (Q : Exit → Act → World → Prop) : Prop where
  h : ∀ c a d v w, Q (.panic c) (Act.put a d v) w → Q (.panic c) a w
instance {P : Program} {fn : Func} {R : Ending → World → Prop} : PanicAny (bodyPost P fn R) := ⟨fun c a d v w h => by cases d <;> exact h⟩
instance {K : Act → World → Prop} {Q : Exit → Act → World → Prop} [PanicAny Q] : PanicAny (Exit.then K Q) := ⟨fun c a d v w h => PanicAny.h (Q := Q) c a d v w h⟩
instance {id : Nat} {Q : Exit → Act → World → Prop} [PanicAny Q] : PanicAny (Exit.inBlock id Q) := ⟨fun c a d v w h => PanicAny.h (Q := Q) c a d v w h⟩

/-- Whatever order is picked from here on; S holds behind every operation but the last one. -/
def anyS (P : Program) (md : Region.Mode) (ops : Array Oper) (Q : Exit → Act → World → Prop) (S : World → Prop) (tail : Option Nat) : Nat → Array Bool → Act → World → Prop
  | 0, listed, a, w => Region.ready md ops listed = [] ∧ Q .normal a w
  | fuel + 1, listed, a, w =>
    (Region.ready md ops listed = [] → Q .normal a w) ∧
    ∀ i ∈ Region.ready md ops listed, wpOp P ops Q i (fun a' w' => (some i = tail ∨ S w') ∧ anyS P md ops Q S tail fuel (listed.setIfInBounds i true) a' w') a w

theorem any_of_anyS : ∀ (fuel : Nat) (listed : Array Bool) (a : Act) (w : World), anyS P md ops Q S tail fuel listed a w → wpAny P md ops Q fuel listed a w
  | 0, _, _, _, h => h
  | fuel + 1, _, _, _, h => ⟨h.1, fun i hi => wpOp_mono (fun a' w' h' => any_of_anyS fuel _ a' w' h'.2) (h.2 i hi)⟩

/-- the last operation waits for each other one -/
def lastOk (md : Region.Mode) (ops : Array Oper) : Option Nat → Bool
  | none => true
  | some t => match ops[t]? with
    | none => false
    | some o => (List.range ops.size).all fun i => i == t || o.after.any fun e => Region.binds md e && e.on == i

theorem lastOk_spec {t : Nat} (h : lastOk md ops (some t) = true) {i : Nat} (hi : i < ops.size) (hne : i ≠ t) : ∃ o, ops[t]? = some o ∧ ∃ e ∈ o.after, Region.binds md e = true ∧ e.on = i := by
  unfold lastOk at h
  cases ho : ops[t]? with
  | none => simp [ho] at h
  | some o =>
    simp only [ho] at h
    have := List.all_eq_true.1 h i (List.mem_range.2 hi)
    simp only [Bool.or_eq_true, beq_iff_eq, hne, false_or] at this
    obtain ⟨e, he, hb⟩ : ∃ e, e ∈ o.after ∧ (Region.binds md e && e.on == i) = true := by
      rw [← Array.any_toList] at this
      obtain ⟨e, he, hb⟩ := List.any_eq_true.1 this
      exact ⟨e, by simpa using he, hb⟩
    simp only [Bool.and_eq_true, beq_iff_eq] at hb
    exact ⟨o, rfl, e, he, hb.1, hb.2⟩

theorem anyS_first {i : Nat} {oi : Oper} {v : Value} [hQ : PanicAny Q] (hi : ops[i]? = some oi) (hsel : ∀ (j : Nat) (o : Oper) cs b, ops[j]? = some o → o.op ≠ .select cs b)
    (htl : lastOk md ops tail = true) :
    ∀ (fuel : Nat) (listed : Array Bool) (a : Act) (w : World),
      (∀ j oj, ops[j]? = some oj → j ≠ i → listed.getD j true = false → (∀ e ∈ oj.after, Region.binds md e = true → e.on ≠ i) → oi.apart ops oj = true) →
      i ∈ Region.ready md ops listed → YieldsIf P ops S oi v a → S w →
      anyS P md ops Q S tail fuel (listed.setIfInBounds i true) (a.put oi.dst v) w → anyS P md ops Q S tail (fuel + 1) listed a w := by
  intro fuel
  induction fuel with
  | zero =>
    intro listed a w _ hr hy hS H
    refine ⟨fun h => (by rw [h] at hr; cases hr), fun j hj => ?_⟩
    by_cases hji : j = i
    · subst hji; exact hy.wpOp hi hS ⟨.inr hS, H⟩
    · have := ready_mono hj hji
      rw [H.1] at this
      cases this
  | succ fuel ih =>
    intro listed a w hfree hr hy hS H
    refine ⟨fun h => (by rw [h] at hr; cases hr), fun j hj => ?_⟩
    by_cases hji : j = i
    · subst hji; exact hy.wpOp hi hS ⟨.inr hS, H⟩
    · have h1 := H.2 j (ready_mono hj hji)
      obtain ⟨hjun, oj, hoj, hall⟩ := mem_ready.1 hj
      have hnot : ∀ e ∈ oj.after, Region.binds md e = true → e.on ≠ i := fun e he hb heq => by
        have h1 := hall e he hb
        have h0 := (mem_ready.1 hr).1
        rw [heq] at h1
        rcases Nat.lt_or_ge i listed.size with h' | h'
        · simp [h'] at h0 h1; rw [h0] at h1; cases h1
        · simp [Array.getElem?_eq_none h'] at h1
      have hjt : some j ≠ tail := by
        intro e
        subst e
        obtain ⟨o, ho, e, he, hb, hon⟩ := lastOk_spec htl (Array.getElem?_eq_some_iff.1 hi).1 (Ne.symm hji)
        rw [hoj, Option.some.injEq] at ho
        subst ho
        exact hnot e he hb hon
      have h2 := wpOp_putIf hoj (hfree j oj hoj hji hjun hnot) (fun cs b => hsel i oi cs b hi) (fun cs b => hsel j oj cs b hoj) (fun c a w h => hQ.h c a oi.dst v w h) hy h1
      have hfree' : ∀ k ok, ops[k]? = some ok → k ≠ i → (listed.setIfInBounds j true).getD k true = false →
          (∀ e ∈ ok.after, Region.binds md e = true → e.on ≠ i) → oi.apart ops ok = true := fun k ok hk hki hun hno => by
        refine hfree k ok hk hki ?_ hno
        by_cases hjk : j = k
        · subst hjk; exact hjun
        · rw [getD_set_ne true hjk] at hun; exact hun
      refine wpOp_mono (fun a' w' h3 => ?_) h2
      have hS' : S w' := h3.2.1.resolve_left hjt
      refine ⟨.inr hS', ih (listed.setIfInBounds j true) a' w' hfree' (ready_mono hr (Ne.symm hji)) h3.1 hS' ?_⟩
      rw [Array.setIfInBounds_comm _ _ hji]
      exact h3.2.2

/-- an order, or several: what is taken first, what is carried out then; where two can come up, both ways -/
inductive SPlan where
  | done
  | take (i : Nat) (r : SPlan)
  | run (i : Nat) (r : SPlan)
  | alt (p q : SPlan)
def SPlan.heads : SPlan → List Nat
  | .run i _ => [i]
  | .alt p q => p.heads ++ q.heads
  | _ => []
def SPlan.depth : SPlan → Nat
  | .done => 0
  | .take _ r => r.depth + 1
  | .run _ r => r.depth + 1
  | .alt p q => max p.depth q.depth
/-- top: here stands all that can come up -/
def planOk (md : Region.Mode) (ops : Array Oper) : Bool → SPlan → Array Bool → Bool
  | top, .done, listed => top && Region.ready md ops listed == []
  | top, .take i r, listed => top && Region.free md ops listed i && (Region.ready md ops listed).contains i && planOk md ops true r (listed.setIfInBounds i true)
  | top, .run i r, listed => (!top || (Region.ready md ops listed == [i])) && planOk md ops true r (listed.setIfInBounds i true)
  | top, .alt p q, listed => (!top || ((Region.ready md ops listed).all (fun i => (p.heads ++ q.heads).contains i) && !((Region.ready md ops listed) == []))) && planOk md ops false p listed && planOk md ops false q listed

/-- the walk in that order -/
def seqS (P : Program) (ops : Array Oper) (Q : Exit → Act → World → Prop) (S : World → Prop) (tail : Option Nat) : SPlan → Act → World → Prop
  | .done, a, w => Q .normal a w
  | .take i r, a, w => ∃ o v, ops[i]? = some o ∧ YieldsIf P ops S o v a ∧ S w ∧ seqS P ops Q S tail r (a.put o.dst v) w
  | .run i r, a, w => wpOp P ops Q i (fun a' w' => (some i = tail ∨ S w') ∧ seqS P ops Q S tail r a' w') a w
  | .alt p q, a, w => seqS P ops Q S tail p a w ∧ seqS P ops Q S tail q a w

theorem anyS_of_seq [PanicAny Q] (hs : Region.noSelect ops = true) (htl : lastOk md ops tail = true) : ∀ (l : SPlan) (listed : Array Bool) (a : Act) (w : World),
    (planOk md ops true l listed = true → seqS P ops Q S tail l a w → ∀ fuel, l.depth ≤ fuel → anyS P md ops Q S tail fuel listed a w) ∧
    (planOk md ops false l listed = true → seqS P ops Q S tail l a w → ∀ fuel, l.depth ≤ fuel + 1 → ∀ i, i ∈ l.heads → wpOp P ops Q i (fun a' w' => (some i = tail ∨ S w') ∧ anyS P md ops Q S tail fuel (listed.setIfInBounds i true) a' w') a w)
  | .done, listed, a, w => by
    refine ⟨fun hp h fuel _ => ?_, fun hp => by simp [planOk] at hp⟩
    have hr : Region.ready md ops listed = [] := by simpa [planOk] using hp
    cases fuel with
    | zero => exact ⟨hr, h⟩
    | succ fuel => exact ⟨fun _ => h, fun i hi => by rw [hr] at hi; cases hi⟩
  | .take i r, listed, a, w => by
    refine ⟨fun hp h fuel hf => ?_, fun hp => by simp [planOk] at hp⟩
    simp only [planOk, Bool.and_eq_true] at hp
    obtain ⟨⟨⟨_, h1⟩, h2⟩, h3⟩ := hp
    obtain ⟨o, v, ho, hy, hS, hk⟩ := h
    simp only [SPlan.depth] at hf
    obtain ⟨fuel, rfl⟩ : ∃ f, fuel = f + 1 := ⟨fuel - 1, by omega⟩
    exact anyS_first ho (Region.noSelect_spec hs) htl fuel listed a w (Region.free_spec ho h1) (by simpa using h2) hy hS ((anyS_of_seq hs htl r _ _ _).1 h3 hk fuel (by omega))
  | .run i r, listed, a, w => by
    have key : planOk md ops true r (listed.setIfInBounds i true) = true → seqS P ops Q S tail (.run i r) a w → ∀ fuel, r.depth ≤ fuel →
        wpOp P ops Q i (fun a' w' => (some i = tail ∨ S w') ∧ anyS P md ops Q S tail fuel (listed.setIfInBounds i true) a' w') a w := fun h2 h fuel hf =>
      wpOp_mono (fun a' w' h3 => ⟨h3.1, (anyS_of_seq hs htl r _ _ _).1 h2 h3.2 fuel hf⟩) h
    refine ⟨fun hp h fuel hf => ?_, fun hp h fuel hf j hj => ?_⟩
    · simp only [planOk, Bool.not_true, Bool.false_or, Bool.and_eq_true, beq_iff_eq] at hp
      obtain ⟨h1, h2⟩ := hp
      simp only [SPlan.depth] at hf
      obtain ⟨fuel, rfl⟩ : ∃ f, fuel = f + 1 := ⟨fuel - 1, by omega⟩
      refine ⟨fun h0 => absurd (h1 ▸ h0) (by simp), fun j hj => ?_⟩
      rw [h1, List.mem_singleton] at hj
      subst hj
      exact key h2 h fuel (by omega)
    · simp only [planOk, Bool.not_false, Bool.true_or, Bool.true_and] at hp
      simp only [SPlan.heads, List.mem_singleton] at hj
      subst hj
      simp only [SPlan.depth] at hf
      exact key hp h fuel (by omega)
  | .alt p q, listed, a, w => by
    have key : planOk md ops false p listed = true → planOk md ops false q listed = true → seqS P ops Q S tail (.alt p q) a w → ∀ fuel, (SPlan.alt p q).depth ≤ fuel + 1 → ∀ i, i ∈ (SPlan.alt p q).heads →
        wpOp P ops Q i (fun a' w' => (some i = tail ∨ S w') ∧ anyS P md ops Q S tail fuel (listed.setIfInBounds i true) a' w') a w := fun h1 h2 h fuel hf i hi => by
      simp only [SPlan.heads, List.mem_append] at hi
      simp only [SPlan.depth] at hf
      rcases hi with hi | hi
      · exact (anyS_of_seq hs htl p _ _ _).2 h1 h.1 fuel (by omega) i hi
      · exact (anyS_of_seq hs htl q _ _ _).2 h2 h.2 fuel (by omega) i hi
    refine ⟨fun hp h fuel hf => ?_, fun hp h fuel hf => ?_⟩
    · simp only [planOk, Bool.not_true, Bool.false_or, Bool.and_eq_true, List.all_eq_true, Bool.not_eq_true'] at hp
      obtain ⟨⟨⟨hall, hne⟩, h1⟩, h2⟩ := hp
      cases fuel with
      | zero =>
        exfalso
        -- a plan that stands for what can come up has a first step
        have hne' : Region.ready md ops listed ≠ [] := by intro e; rw [e] at hne; simp at hne
        obtain ⟨i, hi⟩ := List.exists_mem_of_ne_nil _ hne'
        have hh := hall i hi
        have hd : ∀ (l : SPlan) (i : Nat), i ∈ l.heads → 1 ≤ l.depth := by
          intro l
          induction l with
          | done => intro i hi; simp [SPlan.heads] at hi
          | take i r ih => intro j hj; simp [SPlan.heads] at hj
          | run i r ih => intro j hj; simp [SPlan.depth]
          | alt p q ihp ihq =>
            intro j hj
            simp only [SPlan.heads, List.mem_append] at hj
            simp only [SPlan.depth]
            rcases hj with hj | hj
            · have := ihp j hj; omega
            · have := ihq j hj; omega
        have := hd (.alt p q) i (by simpa [SPlan.heads] using hh)
        omega
      | succ fuel =>
        refine ⟨fun h0 => by rw [h0] at hne; simp at hne, fun i hi => ?_⟩
        exact key h1 h2 h fuel hf i (by have := hall i hi; simpa [SPlan.heads] using this)
    · simp only [planOk, Bool.not_false, Bool.true_or, Bool.true_and, Bool.and_eq_true] at hp
      exact key hp.1 hp.2 h fuel hf

end

section
variable {P : Program} {n : Nat} {lo : SMut} {s : World} {ops : Array Oper} {Q : Exit → Act → World → Prop} {L0 : SHeap} {tail : Option Nat}

def WPS (P : Program) (n : Nat) (lo : SMut) (s : World) (ops : Array Oper) (Q : Exit → Act → World → Prop) (L0 : SHeap) (tail : Option Nat) (l : SPlan) (E : SEnv) (L : SHeap) : Prop :=
  ∀ a w, SSat n a E → SSt lo s L w → SSt lo s L0 w → seqS P ops Q (SSt lo s L0) tail l a w

/-- what follows an operation that came up alone -/
def backS (P : Program) (n : Nat) (lo : SMut) (s : World) (ops : Array Oper) (Q : Exit → Act → World → Prop) (L0 : SHeap) (tail : Option Nat) (i : Nat) (r : SPlan) : Act → World → Prop :=
  fun a' w' => (some i = tail ∨ SSt lo s L0 w') ∧ seqS P ops Q (SSt lo s L0) tail r a' w'

theorem c_regionS (order : SPlan) (tail : Option Nat) {id : Nat} {l : List Oper} {E : SEnv} {L : SHeap} [PanicAny Q] (hm : P.follows .mixedOrders = true)
    (hp : (Region.noSelect l.toArray && lastOk .any l.toArray tail && planOk .any l.toArray true order (Array.replicate l.toArray.size false) && decide (order.depth ≤ l.toArray.size)) = true)
    (h : WPS P n lo s l.toArray Q L tail order E L) : WPC P n lo s (.region id l.toArray true) Q E L := by
  intro a w ha hw
  simp only [Bool.and_eq_true, decide_eq_true_eq] at hp
  obtain ⟨⟨⟨h1, h2⟩, h3⟩, h4⟩ := hp
  refine wp_region_any hm ?_
  exact any_of_anyS _ _ _ _ ((anyS_of_seq h1 h2 order _ _ _).1 h3 (h a _ ha hw.drew hw.drew) _ h4)

theorem h_nil {E : SEnv} {L : SHeap} (h : SEnds n lo s Q .normal E L) : WPS P n lo s ops Q L0 tail .done E L := fun a w ha hw _ => h a w ha hw
theorem h_alt {p q : SPlan} {E : SEnv} {L : SHeap} (h1 : WPS P n lo s ops Q L0 tail p E L) (h2 : WPS P n lo s ops Q L0 tail q E L) : WPS P n lo s ops Q L0 tail (.alt p q) E L := fun a w ha hw h0 => ⟨h1 a w ha hw h0, h2 a w ha hw h0⟩

/-- an operation that yields a value and does nothing else -/
def valOp : Op → Bool
  | .move _ | .assign _ | .load .. | .binOp .. | .unOp .. | .convert .. | .slice .. | .fieldAddr .. | .field .. | .indexAddr .. | .index .. | .extract .. | .build .. | .makeFunc .. => true
  | .call { callee := .builtin .len, .. } | .call { callee := .builtin .min, .. } | .call { callee := .builtin .max, .. } => true
  | _ => false

theorem bind_value {x : Sem Value} {w w' : World} {r : Next} (h : (do pure (Next.value (← x)) : Sem Next).run P w = .ok r w') : ∃ u, r = .value u := by
  simp only [bind_pure_comp, Sem.run_map] at h
  cases hx : x.run P w with
  | ok u w1 => simp [hx] at h; exact ⟨u, h.1.symm⟩
  | halt _ _ => simp [hx] at h

theorem valOp_value {ρ : Operand → Value} {o : Oper} (hv : valOp o.op = true) {w w' : World} {r : Next} (h : (execOp ρ o).run P w = .ok r w') : ∃ u, r = .value u := by
  obtain ⟨dst, op, ty, pos, after, g⟩ := o
  cases op <;> first | (simp [valOp] at hv; done) | simp only [execOp] at h
  case move => simp at h; exact ⟨_, h.1.symm⟩
  case assign => simp at h; exact ⟨_, h.1.symm⟩
  case call c =>
    obtain ⟨callee, args, ts⟩ := c
    cases callee <;> first | (simp [valOp] at hv; done) | skip
    rename_i b
    cases b <;> first | (simp [valOp] at hv; done) | skip
    all_goals (simp only [resolve, invoke, builtin, Sem.run_bind, Sem.run_pure, Result.andThen_ok] at h; exact bind_value (by simpa only [Sem.run_bind, Sem.run_pure] using h))
  all_goals exact bind_value h

def opAt? (ops : Array Oper) (i : Nat) : Option Oper := ops[i]?

theorem h_take_v {i d : Nat} {op : Op} {ty : TypeId} {pos : String} {after : Array Edge} {v : Value} {r : SPlan} {E : SEnv} {L : SHeap}
    (ho : ops[i]? = some ⟨some d, op, ty, pos, after, none⟩) (hv : ∀ a, SSat n a E → ∀ w, (execOp a.eval ⟨some d, op, ty, pos, after, none⟩).run P w = .ok (.value v) w) (hd : Nat.blt d n = true)
    (k : WPS P n lo s ops Q L0 tail r ((d, v) :: E) L) : WPS P n lo s ops Q L0 tail (.take i r) E L :=
  fun a w ha hw h0 => ⟨_, v, ho, .inl ⟨rfl, fun w1 _ => hv a ha w1⟩, h0, k _ w (ha.put hd v) hw h0⟩

theorem h_take_nil {i d : Nat} {x : Operand} {A : Addr} {ty : TypeId} {pos : String} {after : Array Edge} {r : SPlan} {E : SEnv} {L : SHeap}
    (ho : ops[i]? = some ⟨some d, .nilCheck x, ty, pos, after, none⟩) (hx : sval E x = some (.pointer (some A))) (hd : Nat.blt d n = true)
    (k : WPS P n lo s ops Q L0 tail r ((d, .pointer (some A)) :: E) L) : WPS P n lo s ops Q L0 tail (.take i r) E L :=
  h_take_v ho (fun a ha w => by simp [execOp, ha.sval hx]) hd k

theorem h_take_pick {i d : Nat} {c x y : Operand} {v : Value} {ty : TypeId} {pos : String} {after : Array Edge} {r : SPlan} {E : SEnv} {L : SHeap}
    (ho : ops[i]? = some ⟨some d, .pick c x y, ty, pos, after, none⟩) (hx : pureOp E (.pick c x y) = some v) (hd : Nat.blt d n = true)
    (k : WPS P n lo s ops Q L0 tail r ((d, v) :: E) L) : WPS P n lo s ops Q L0 tail (.take i r) E L :=
  h_take_v ho (fun a ha w => by
    simp only [pureOp] at hx
    split at hx
    · rename_i hc; simp [execOp, ha.sval hc, ha.sval hx, asBool]
    · rename_i hc; simp [execOp, ha.sval hc, ha.sval hx, asBool]
    · cases hx) hd k

theorem h_take {i d : Nat} {op : Op} {ty : TypeId} {pos : String} {after : Array Edge} {v : Value} {r : SPlan} {E : SEnv} {L : SHeap}
    (ho : ops[i]? = some ⟨some d, op, ty, pos, after, none⟩) (hv : SOpV P n lo s E L0 ⟨some d, op, ty, pos, after, none⟩ v) (hval : valOp op = true) (hd : Nat.blt d n = true)
    (k : WPS P n lo s ops Q L0 tail r ((d, v) :: E) L) : WPS P n lo s ops Q L0 tail (.take i r) E L := by
  intro a w ha hw h0
  refine ⟨_, v, ho, .inl ⟨rfl, fun w1 hw1 => ?_⟩, h0, k _ w (ha.put hd v) hw h0⟩
  have h := hv a ha w1 hw1
  unfold Oper.quietAt at h
  cases hr : (execOp a.eval ⟨some d, op, ty, pos, after, none⟩).run P w1 with
  | halt x w2 => rw [hr] at h; exact h.elim
  | ok x w2 =>
    obtain ⟨u, rfl⟩ := valOp_value (by exact hval) hr
    rw [hr] at h
    obtain ⟨e1, e2⟩ := h
    rw [e1, e2]

/-- the same, guarded -/
theorem h_take_y {i d j t : Nat} {want : Bool} {op : Op} {ty : TypeId} {pos : String} {after : Array Edge} {v : Value} {r : SPlan} {E : SEnv} {L : SHeap}
    (ho : ops[i]? = some ⟨some d, op, ty, pos, after, some (j, want)⟩) (hj : sgslot ops j = some t) (hb : slook E t = some (.bool want)) (ht : Nat.blt t n = true)
    (hv : SOpV P n lo s E L0 ⟨some d, op, ty, pos, after, none⟩ v) (hval : valOp op = true) (hd : Nat.blt d n = true)
    (k : WPS P n lo s ops Q L0 tail r ((d, v) :: E) L) : WPS P n lo s ops Q L0 tail (.take i r) E L := by
  intro a w ha hw h0
  have hy := yielded_slook ha hj hb ht
  refine ⟨_, v, ho, .inl ⟨by simp only [Region.wanted, hy, beq_self_eq_true], fun w1 hw1 => ?_⟩, h0, k _ w (ha.put hd v) hw h0⟩
  have h := hv a ha w1 hw1
  unfold Oper.quietAt at h
  have he : execOp a.eval ⟨some d, op, ty, pos, after, some (j, want)⟩ = execOp a.eval ⟨some d, op, ty, pos, after, none⟩ := rfl
  rw [he]
  cases hr : (execOp a.eval ⟨some d, op, ty, pos, after, none⟩).run P w1 with
  | halt x w2 => rw [hr] at h; exact h.elim
  | ok x w2 =>
    obtain ⟨u, rfl⟩ := valOp_value (by exact hval) hr
    rw [hr] at h
    obtain ⟨e1, e2⟩ := h
    rw [e1, e2]

theorem h_take_n {i d j t : Nat} {want : Bool} {op : Op} {ty : TypeId} {pos : String} {after : Array Edge} {v : Value} {r : SPlan} {E : SEnv} {L : SHeap}
    (ho : ops[i]? = some ⟨some d, op, ty, pos, after, some (j, want)⟩) (hj : sgslot ops j = some t) (hb : slook E t = some v) (hv : (match v with | .bool b => some b == some want | _ => false) = false) (ht : Nat.blt t n = true) (hd : Nat.blt d n = true)
    (k : WPS P n lo s ops Q L0 tail r ((d, undef) :: E) L) : WPS P n lo s ops Q L0 tail (.take i r) E L := by
  intro a w ha hw h0
  have hy := yielded_slook ha hj hb ht
  refine ⟨_, undef, ho, .inr ⟨?_, rfl⟩, h0, k _ w (ha.put hd undef) hw h0⟩
  simp only [Region.wanted, hy]
  cases v <;> first | exact hv | rfl

theorem h_split {j t : Nat} {b : Bool} {l : SPlan} {E : SEnv} {L : SHeap} (hb : slook E t = some (.bool b))
    (y : b = true → WPS P n lo s ops Q L0 tail l ((t, .bool true) :: E) L)
    (z : b = false → WPS P n lo s ops Q L0 tail l ((t, .bool false) :: E) L) : WPS P n lo s ops Q L0 tail l E L := by
  intro a w ha hw h0
  cases b
  · exact z rfl a w (ha.over hb rfl) hw h0
  · exact y rfl a w (ha.over hb rfl) hw h0

/-- a guarded operation in the order, once its guard is known to hold: what is to be shown of it -/
def TakeAt (P : Program) (n : Nat) (lo : SMut) (s : World) (ops : Array Oper) (Q : Exit → Act → World → Prop) (L0 : SHeap) (tail : Option Nat) (d : Nat) (op : Op) (ty : TypeId) (pos : String) (after : Array Edge) (r : SPlan) (E : SEnv) (L : SHeap) : Prop :=
  ∃ v, SOpV P n lo s E L0 ⟨some d, op, ty, pos, after, none⟩ v ∧ valOp op = true ∧ Nat.blt d n = true ∧ WPS P n lo s ops Q L0 tail r ((d, v) :: E) L
theorem t_take {d : Nat} {op : Op} {ty : TypeId} {pos : String} {after : Array Edge} {v : Value} {r : SPlan} {E : SEnv} {L : SHeap}
    (hv : SOpV P n lo s E L0 ⟨some d, op, ty, pos, after, none⟩ v) (hval : valOp op = true) (hd : Nat.blt d n = true) (k : WPS P n lo s ops Q L0 tail r ((d, v) :: E) L) : TakeAt P n lo s ops Q L0 tail d op ty pos after r E L := ⟨v, hv, hval, hd, k⟩
theorem h_takeG {i d j t : Nat} {want : Bool} {op : Op} {ty : TypeId} {pos : String} {after : Array Edge} {r : SPlan} {E : SEnv} {L : SHeap}
    (ho : ops[i]? = some ⟨some d, op, ty, pos, after, some (j, want)⟩) (hj : sgslot ops j = some t) (hb : slook E t = some (.bool want)) (ht : Nat.blt t n = true)
    (k : TakeAt P n lo s ops Q L0 tail d op ty pos after r E L) : WPS P n lo s ops Q L0 tail (.take i r) E L := by
  obtain ⟨v, h1, h2, h3, h4⟩ := k
  exact h_take_y ho hj hb ht h1 h2 h3 h4
/-- a guarded operation, in both cases of its guard -/
theorem h_splitG {i d j t : Nat} {want : Bool} {op : Op} {ty : TypeId} {pos : String} {after : Array Edge} {r : SPlan} {E : SEnv} {L : SHeap} {p : Prop} [Decidable p]
    (ho : ops[i]? = some ⟨some d, op, ty, pos, after, some (j, want)⟩) (hj : sgslot ops j = some t) (hb : slook E t = some (.bool (decide p)))
    (y : p → WPS P n lo s ops Q L0 tail (.take i r) ((t, .bool true) :: E) L) (z : ¬ p → WPS P n lo s ops Q L0 tail (.take i r) ((t, .bool false) :: E) L) : WPS P n lo s ops Q L0 tail (.take i r) E L :=
  h_split (j := j) hb (fun h => y (by simpa using h)) (fun h => z (by simpa using h))
theorem kTake (i : Nat) {r : SPlan} {E : SEnv} {L : SHeap} (h : WPS P n lo s ops Q L0 tail (.take i r) E L) : WPS P n lo s ops Q L0 tail (.take i r) E L := h

/-- an operation with an effect comes up alone -/
theorem h_exec {i : Nat} {o : Oper} {r : SPlan} {E : SEnv} {L : SHeap} (ho : ops[i]? = some o)
    (k : WPL P n lo s ops (Exit.then (backS P n lo s ops Q L0 tail i r) Q) [o] E L) : WPS P n lo s ops Q L0 tail (.run i r) E L := by
  intro a w ha hw h0
  have h := k a w ha hw
  show wpOp P ops Q i _ a w
  unfold wpOp
  simp only [ho]
  unfold wpList at h
  split at h
  · rename_i hw'
    rw [if_pos hw']
    rcases h with h | ⟨hasks, hl⟩
    · refine .inl ?_
      unfold Oper.wp at *
      generalize (execOp a.eval o).run P w = x at *
      cases x with
      | ok nx w' =>
        cases nx <;> simp only [Oper.upon] at h ⊢
        case value u => exact h
        case skip => exact h
        case defer d => exact h
        case enter f args =>
          refine Calls.mono h fun e w'' he => ?_
          cases e with
          | returned u => exact he
          | panicked c => exact he
          | outgrown => exact he
        case row row args => exact Rows.mono h fun u w'' he => he
      | halt x w' => cases x <;> simp only [Oper.upon] at h ⊢ <;> exact h
    · exact .inr ⟨hasks, hl⟩
  · rename_i hw'
    rw [if_neg hw']
    exact h

theorem h_back {i : Nat} {r : SPlan} {E : SEnv} {L : SHeap} (hs : List.Sublist L0 L) (k : WPS P n lo s ops Q L0 tail r E L) :
    WPL P n lo s ops (Exit.then (backS P n lo s ops Q L0 tail i r) Q) [] E L :=
  fun a w ha hw => wpList_nil ⟨.inr (hw.sub hs), k a w ha hw (hw.sub hs)⟩

theorem h_back_last {i : Nat} {E : SEnv} {L : SHeap} (ht : tail = some i) (h : SEnds n lo s Q .normal E L) :
    WPL P n lo s ops (Exit.then (backS P n lo s ops Q L0 tail i .done) Q) [] E L :=
  fun a w ha hw => wpList_nil ⟨.inl ht.symm, h a w ha hw⟩
end

end Sx

/-
  The engine, sixth part: slices that are read; slices of one's own: make, append, stores by an index; calls that hand back new memory.
-/
namespace Sx
open Go

def baseOf : Value → Nat × Nat
  | .slice (some a) _ _ => (a.block, a.off)
  | _ => (0, 0)

/-- the length of a slice is at most its room -/
def lenLeCap : Value → Prop
  | .slice _ n c => n ≤ c
  | _ => True
/-- v reads as n rows of k cells -/
structure RRow (w : World) (v : Value) (k n : Nat) (cells : Nat → List Value) : Prop where
  form : ∃ a c, v = .slice a n c ∧ (0 < n → ∃ b o, a = some ⟨b, o, none⟩)
  len : n ≤ 9223372036854775807
  size : ∀ i, i < n → (cells i).length = k
  cell : ∀ i, i < n → ∀ j u, (cells i)[j]? = some u → w.cell? ⟨(baseOf v).1, (baseOf v).2 + i * k + j, none⟩ = some u
  room : lenLeCap v

theorem RRow.keep {w w' : World} {v : Value} {k n : Nat} {cells : Nat → List Value} (h : RRow w v k n cells) (hw : ∀ a u, w.cell? a = some u → w'.cell? a = some u) : RRow w' v k n cells :=
  ⟨h.form, h.len, h.size, fun i hi j u hu => hw _ _ (h.cell i hi j u hu), h.room⟩

theorem SSt.cells {lo : SMut} {s w : World} {L : SHeap} (h : SSt lo s L w) (hlo : lo = []) : ∀ a u, s.cell? a = some u → w.cell? a = some u := fun a u hu => h.old hlo hu

theorem RRow.congr {w : World} {v : Value} {k n m : Nat} {f g : Nat → List Value} (h : RRow w v k n f) (hm : m = n) (hg : ∀ i, i < n → g i = f i) : RRow w v k m g := by
  subst hm
  exact ⟨h.form, h.len, fun i hi => by rw [hg i hi]; exact h.size i hi, fun i hi j u hu => h.cell i hi j u (by rw [← hg i hi]; exact hu), h.room⟩

section
variable {P : Program} {n : Nat} {lo : SMut} {s : World} {E : SEnv} {L : SHeap} {d : Option Tmp} {ty : TypeId} {pos : String} {after : Array Edge} {g : Option (Nat × Bool)}
variable {v : Value} {k m : Nat} {cells : Nat → List Value}

theorem ov_lenR {x : Operand} {t e : TypeId} [hu : SUnd P t (.slice e)] (h : ∀ w, SSt lo s L w → RRow w v k m cells) (hx : sval E x = some v) :
    SOpV P n lo s E L ⟨d, .call { callee := .builtin .len, args := #[x], argTypes := #[t] }, ty, pos, after, g⟩ (.int .i64 m) := by
  intro a ha w hw
  obtain ⟨ad, c, rfl, _⟩ := (h w hw).form
  exact ov_len hx a ha w hw

theorem ov_idxR {x y : Operand} {t e : TypeId} {i : Int} {z : Value} {by_ : Nat} {ik : IntKind} [hu : SUnd P t (.slice e)] [hi : SInf P e z k by_]
    (h : ∀ w, SSt lo s L w → RRow w v k m cells) (hx : sval E x = some v) (hy : sval E y = some (.int ik i)) (hb : 0 ≤ i ∧ i < m) :
    SOpV P n lo s E L ⟨d, .indexAddr t x y, ty, pos, after, g⟩ (.pointer (some ⟨(baseOf v).1, (baseOf v).2 + i.toNat * k, none⟩)) := by
  intro a ha w hw
  obtain ⟨ad, c, rfl, h2⟩ := (h w hw).form
  obtain ⟨b, o, rfl⟩ := h2 (by omega)
  exact ov_indexAddr hx hy hb a ha w hw

/-- one cell of the row -/
theorem ov_ldR {x : Operand} {t : TypeId} {td : TypeDesc} {u : Value} {i j : Nat} [hu : SUnd P t td]
    (h : ∀ w, SSt lo s L w → RRow w v k m cells) (hx : sval E x = some (.pointer (some ⟨(baseOf v).1, (baseOf v).2 + i * k + j, none⟩))) (hr : sisRow td = false) (hi : i < m) (hc : snth (cells i) j = some u) :
    SOpV P n lo s E L ⟨d, .load t x, ty, pos, after, g⟩ u :=
  ov_load_at hx hr fun w hw => (h w hw).cell i hi j u (by rw [← snth_eq]; exact hc)
theorem ov_ldR0 {x : Operand} {t : TypeId} {td : TypeDesc} {u : Value} {i : Nat} [hu : SUnd P t td]
    (h : ∀ w, SSt lo s L w → RRow w v k m cells) (hx : sval E x = some (.pointer (some ⟨(baseOf v).1, (baseOf v).2 + i * k, none⟩))) (hr : sisRow td = false) (hi : i < m) (hc : snth (cells i) 0 = some u) :
    SOpV P n lo s E L ⟨d, .load t x, ty, pos, after, g⟩ u :=
  ov_ldR (j := 0) h hx hr hi hc
/-- the whole row -/
theorem ov_ldRS {x : Operand} {t : TypeId} {td : TypeDesc} {z : Value} {i by_ : Nat} [hu : SUnd P t td] [hi : SInf P t z k by_]
    (h : ∀ w, SSt lo s L w → RRow w v k m cells) (hx : sval E x = some (.pointer (some ⟨(baseOf v).1, (baseOf v).2 + i * k, none⟩))) (hr : sisRow td = true) (hi' : i < m)
    (hne : ∃ w, SSt lo s L w) :
    SOpV P n lo s E L ⟨d, .load t x, ty, pos, after, g⟩ (.agg (cells i).toArray) := by
  obtain ⟨w0, hw0⟩ := hne
  exact ov_loadS_at hx hr ((h w0 hw0).size i hi') fun w hw j u hj => (h w hw).cell i hi' j u hj
end

/-! ### own slices -/
/-- v is a slice of one's own whose elements are the cells xs (n rows of k); H: its block, if any -/
inductive OVec (k : Nat) (T : TypeId) : Value → Nat → List Value → SPiece → Prop
  | nil : OVec k T (.slice none 0 0) 0 [] []
  | blk (b n cap : Nat) (xs r : List Value) (h1 : xs.length = n * k) (h2 : (xs ++ r).length = cap * k) (h3 : n ≤ cap) (h4 : cap ≤ maxLen) :
      OVec k T (.slice (some ⟨b, 0, none⟩) n cap) n xs [(b, srow (xs ++ r) T)]

theorem OVec.length {k : Nat} {T : TypeId} {v : Value} {n : Nat} {xs : List Value} {H : SPiece} (h : OVec k T v n xs H) : xs.length = n * k := by
  cases h with
  | nil => simp
  | blk b n cap xs r h1 => exact h1

theorem getElem?_rows {k : Nat} {cells : Nat → List Value} : ∀ (n : Nat), (∀ i, i < n → (cells i).length = k) → ∀ i j u, i < n → (cells i)[j]? = some u → ((List.range n).flatMap cells)[i * k + j]? = some u
  | 0, _, i, j, u, hi, _ => by omega
  | n + 1, hs, i, j, u, hi, hu => by
    have hlen : ∀ m, m ≤ n → ((List.range m).flatMap cells).length = m * k := by
      intro m
      induction m with
      | zero => intro _; simp
      | succ m ih =>
        intro hm
        rw [List.range_succ, List.flatMap_append, List.length_append, ih (by omega)]
        simp [hs m (by omega), Nat.succ_mul]
    rw [List.range_succ, List.flatMap_append]
    have hj : j < k := by
      rw [← hs i hi]; exact (List.getElem?_eq_some_iff.1 hu).1
    by_cases hin : i < n
    · rw [List.getElem?_append_left]
      · exact getElem?_rows n (fun i hi => hs i (by omega)) i j u hin hu
      · rw [hlen n (Nat.le_refl _)]
        calc i * k + j < i * k + k := by omega
          _ = (i + 1) * k := by rw [Nat.succ_mul]
          _ ≤ n * k := Nat.mul_le_mul_right _ hin
    · have : i = n := by omega
      subst this
      rw [List.getElem?_append_right (by rw [hlen i (Nat.le_refl _)]; omega), hlen i (Nat.le_refl _)]
      simpa using hu

theorem OVec.reads {k : Nat} {T : TypeId} {v : Value} {n : Nat} {xs : List Value} {H : SPiece} (h : OVec k T v n xs H) {w : World} (hw : ∀ b o, (b, o) ∈ H → w.heap[b]? = some o)
    {cells : Nat → List Value} (hl : n ≤ 9223372036854775807) (hs : ∀ i, i < n → (cells i).length = k) (hx : xs = (List.range n).flatMap cells) : RRow w v k n cells := by
  cases h with
  | nil => exact ⟨⟨none, 0, rfl, fun h => by omega⟩, by omega, hs, fun i hi => by omega, Nat.le_refl _⟩
  | blk b n cap xs r h1 h2 h3 h4 =>
    refine ⟨⟨_, _, rfl, fun _ => ⟨b, 0, rfl⟩⟩, hl, hs, fun i hi j u hu => ?_, h3⟩
    have hb := hw b _ (List.mem_singleton.2 rfl)
    have he := getElem?_rows n hs i j u hi hu
    rw [← hx] at he
    have hlt : i * k + j < xs.length := (List.getElem?_eq_some_iff.1 he).1
    simp only [baseOf, Nat.zero_add]
    simp [World.cell?, hb, srow, List.getElem?_append_left hlt, he]

theorem SSt.piece {lo : SMut} {s w : World} {L : SHeap} (h : SSt lo s L w) {i : Nat} {H : SPiece} (hi : getL L i = some H) : ∀ b o, (b, o) ∈ H → w.heap[b]? = some o :=
  fun b o hm => (h.blocks b o (getL_flat hi hm)).2

section
variable {P : Program} {n : Nat} {lo : SMut} {s : World} {ops : Array Oper} {Q : Exit → Act → World → Prop} {E : SEnv} {L : SHeap} {d : Nat} {ty : TypeId} {pos : String} {after : Array Edge} {rest : List Oper}

/-- make([]T, l, c) of one-cell elements -/
theorem s_make1 {t e : TypeId} {x y : Operand} {l c : Int} {z : Value} {by_ : Nat} [hu : SUnd P t (.slice e)] [hi : SInf P e z 1 by_] (hx : sval E x = some (.int .i64 l)) (hy : sval E y = some (.int .i64 c))
    (h1 : z.oneCell' = true) (hl : 0 ≤ l ∧ l ≤ c ∧ c ≤ 9223372036854775807) (hb : (by_ : Int) * c ≤ 281474976710656) (hd : Nat.blt d n = true)
    (k : ∀ b, s.heap.size ≤ b → WPL P n lo s ops Q rest ((d, .slice (some ⟨b, 0, none⟩) l.toNat c.toNat) :: E) ([(b, srow (List.replicate c.toNat z) e)] :: L)) :
    WPL P n lo s ops Q (⟨some d, .makeSlice t x y, ty, pos, after, none⟩ :: rest) E L := by
  have hc : z.cells = #[z] := by cases z <;> first | rfl | simp [Value.oneCell'] at h1
  refine s_eff (E' := fun _ _ => []) (fun w u w' => u = .slice (some ⟨w.heap.size, 0, none⟩) l.toNat c.toNat ∧ w' = w.alloc (srow (List.replicate c.toNat z) e)) (fun a w ha hw => ⟨_, _, ?_, rfl, rfl⟩) hd ?_
  · obtain ⟨i, i1, i2, i3, i4⟩ := hi.out
    have hl1 : ¬ (l < 0) := by omega
    have hl2 : ¬ (c < l) := by omega
    have hc1 : ¬ (c < 0) := by omega
    have hb' : ¬ (281474976710656 < (i.bytes : Int) * c) := by rw [i4]; omega
    have hrow : (Array.range c.toNat).map (fun j => ([z] : List Value)[j % 1]?.getD default) = (List.replicate c.toNat z).toArray := by
      apply Array.ext
      · simp
      · intro j h1 h2
        simp [Nat.mod_one]
    by_cases hz : c.toNat = 0
    · simp [execOp, Instr.makeSlice, ha.sval hx, ha.sval hy, srun_und, asInt, asIntOf, typeInfo, i1, Go.sizeOf, IntWalk.i64_in l (by omega), IntWalk.i64_in c (by omega), hl1, hl2, hc1, hb', hz, newRow]
      exact congrArg w.alloc (congrArg (fun c => Obj.cells c e (0, 0)) (by simp))
    · simp [execOp, Instr.makeSlice, ha.sval hx, ha.sval hy, srun_und, asInt, asIntOf, typeInfo, i1, Go.sizeOf, i3, IntWalk.i64_in l (by omega), IntWalk.i64_in c (by omega), hl1, hl2, hc1, hb', hz, newRow, srun_zeroValue, hc]
      exact congrArg w.alloc (congrArg (fun c => Obj.cells c e (0, 0)) hrow)
  · rintro w u w' hw ⟨rfl, rfl⟩ a ha
    exact k w.heap.size hw.hi a _ ha (hw.alloc _)

/-- make([]T, l, c) of a struct's cells -/
theorem s_makeS {t e : TypeId} {x y : Operand} {l c : Int} {zl : List Value} {kk by_ : Nat} [hu : SUnd P t (.slice e)] [hi : SInf P e (.agg zl.toArray) kk by_] (hx : sval E x = some (.int .i64 l)) (hy : sval E y = some (.int .i64 c))
    (hk : zl.length = kk) (hk0 : 0 < kk) (hl : 0 ≤ l ∧ l ≤ c ∧ c ≤ 9223372036854775807) (hb : (by_ : Int) * c ≤ 281474976710656) (hd : Nat.blt d n = true)
    (k : ∀ b, s.heap.size ≤ b → WPL P n lo s ops Q rest ((d, .slice (some ⟨b, 0, none⟩) l.toNat c.toNat) :: E) ([(b, srow (List.replicate c.toNat zl).flatten e)] :: L)) :
    WPL P n lo s ops Q (⟨some d, .makeSlice t x y, ty, pos, after, none⟩ :: rest) E L := by
  refine s_eff (E' := fun _ _ => []) (fun w u w' => u = .slice (some ⟨w.heap.size, 0, none⟩) l.toNat c.toNat ∧ w' = w.alloc (srow (List.replicate c.toNat zl).flatten e)) (fun a w ha hw => ⟨_, _, ?_, rfl, rfl⟩) hd ?_
  · obtain ⟨i, i1, i2, i3, i4⟩ := hi.out
    have hl1 : ¬ (l < 0) := by omega
    have hl2 : ¬ (c < l) := by omega
    have hc1 : ¬ (c < 0) := by omega
    have hb' : ¬ (281474976710656 < (i.bytes : Int) * c) := by rw [i4]; omega
    have hflat : ∀ m j, ((List.replicate m zl).flatten)[j]? = if j < m * kk then some (zl[j % kk]?.getD default) else none := by
      intro m
      induction m with
      | zero => intro j; simp
      | succ m ih =>
        intro j
        rw [List.replicate_succ, List.flatten_cons]
        by_cases hj : j < kk
        · rw [List.getElem?_append_left (by omega), if_pos (by rw [Nat.succ_mul]; omega), Nat.mod_eq_of_lt hj, List.getElem?_eq_getElem (by omega)]
          simp
        · rw [List.getElem?_append_right (by omega), ih, hk]
          have : (j - kk) % kk = j % kk := (Nat.mod_eq_sub_mod (by omega)).symm
          rw [this]
          by_cases hjm : j - kk < m * kk
          · rw [if_pos hjm, if_pos (by rw [Nat.succ_mul]; omega)]
          · rw [if_neg hjm, if_neg (by rw [Nat.succ_mul]; omega)]
    have hrow : (Array.range (c.toNat * kk)).map (fun j => zl[j % kk]?.getD default) = (List.replicate c.toNat zl).flatten.toArray := by
      apply Array.ext'
      apply List.ext_getElem?
      intro j
      rw [hflat]
      by_cases hj : j < c.toNat * kk
      · simp [hj]
      · simp [hj]
    by_cases hz : c.toNat * kk = 0
    · have hc0 : c.toNat = 0 := by rcases Nat.mul_eq_zero.1 hz with h | h <;> omega
      simp [execOp, Instr.makeSlice, ha.sval hx, ha.sval hy, srun_und, asInt, asIntOf, typeInfo, i1, Go.sizeOf, IntWalk.i64_in l (by omega), IntWalk.i64_in c (by omega), hl1, hl2, hc1, hb', hc0, newRow]
      exact congrArg w.alloc (congrArg (fun c => Obj.cells c e (0, 0)) (by simp))
    · simp [execOp, Instr.makeSlice, ha.sval hx, ha.sval hy, srun_und, asInt, asIntOf, typeInfo, i1, Go.sizeOf, i3, IntWalk.i64_in l (by omega), IntWalk.i64_in c (by omega), hl1, hl2, hc1, hb', hz, newRow, srun_zeroValue, Value.cells, hk]
      exact congrArg w.alloc (congrArg (fun c => Obj.cells c e (0, 0)) hrow)
  · rintro w u w' hw ⟨rfl, rfl⟩ a ha
    exact k w.heap.size hw.hi a _ ha (hw.alloc _)

/-- append(s, x...), s one's own: piece number i; x reads as the cells ys (m rows) -/
theorem s_append (i : Nat) {t e : TypeId} {x y : Operand} {v u : Value} {z : Value} {kk by_ nn m : Nat} {xs ys : List Value} {H : SPiece} {X : TypeId} [hu : SUnd P t (.slice e)] [hinf : SInf P e z kk by_]
    (hx : sval E x = some v) (hy : sval E y = some u) (hv : OVec kk e v nn xs H) (hL : getL L i = some H) (hz : z.cells.size = kk) (hk0 : 0 < kk)
    (hm0 : ys.length = m * kk) (hones : oneCells ys = true) (hr : ∀ w, SSt lo s L w → ∃ a c, u = .slice (some a) m c ∧ ∀ j q, ys[j]? = some q → w.cell? (a.add j) = some q)
    (hb : ((nn + m) * by_ ≤ 140737488355328)) (h63 : nn + m ≤ 140737488355328) (hd : Nat.blt d n = true)
    (k : ∀ v' H', OVec kk e v' (nn + m) (xs ++ ys) H' → WPL P n lo s ops Q rest ((d, v') :: E) (setL L i H')) :
    WPL P n lo s ops Q (⟨some d, .call { callee := .builtin .append, args := #[x, y], argTypes := #[t, t] }, X, pos, after, none⟩ :: rest) E L := by
  refine s_eff (E' := fun _ _ => []) (fun w v' w' => ∃ H', OVec kk e v' (nn + m) (xs ++ ys) H' ∧ SSt lo s (setL L i H') w') (fun a w ha hw => ?_) hd ?_
  · obtain ⟨ii, i1, i2, i3, i4⟩ := hinf.out
    obtain ⟨ad, c, rfl, hcell⟩ := hr w hw
    have hex : ∀ v' w', (Builtin.append_ #[t, t] X #[v, .slice (some ad) m c]).run P w = .ok v' w' →
        (execOp a.eval ⟨some d, .call { callee := .builtin .append, args := #[x, y], argTypes := #[t, t] }, X, pos, after, none⟩).run P w = .ok (.value v') w' := fun v' w' h => by
      simp only [execOp, resolve, invoke, builtin, Sem.run_bind, Sem.run_pure, Result.andThen_ok, List.map_toArray, List.map_cons, List.map_nil, ha.sval hx, ha.sval hy, h]
    have hzero : ∀ cnt, (Builtin.zeroCells z.cells cnt).size = cnt * kk := fun cnt => by rw [size_zeroCells, hz]
    have hmax : (140737488355328 : Nat) ≤ maxLen := by unfold maxLen; omega
    -- a new block
    have grow : ∀ (old : Nat) (w' : World) (cap : Nat), cap = grownCap w (nn + m) old e → w' = w.drew.alloc (.cells (xs.toArray ++ ys.toArray ++ Builtin.zeroCells z.cells (cap - (nn + m))) e) →
        xs.length = nn * kk → ∃ H', OVec kk e (.slice (some ⟨w.heap.size, 0, none⟩) (nn + m) cap) (nn + m) (xs ++ ys) H' ∧ SSt lo s (setL L i H') w' := by
      intro old w' cap hcap hw' hxl
      have hge := grownCap_ge w (nn + m) old e
      have hcm := grownCap_le_maxLen w (nn + m) old e (by omega)
      rw [← hcap] at hge hcm
      have hlen : (xs ++ ys).length = (nn + m) * kk := by rw [List.length_append, hxl, hm0, Nat.add_mul]
      have hrowEq : (Obj.cells (xs.toArray ++ ys.toArray ++ Builtin.zeroCells z.cells (cap - (nn + m))) e) = srow (xs ++ ys ++ (Builtin.zeroCells z.cells (cap - (nn + m))).toList) e := by
        unfold srow; congr 1; apply Array.ext'; simp
      refine ⟨[(w.heap.size, srow (xs ++ ys ++ (Builtin.zeroCells z.cells (cap - (nn + m))).toList) e)], OVec.blk _ _ _ _ _ hlen ?_ hge hcm, ?_⟩
      · rw [List.length_append, hlen, Array.length_toList, hzero, ← Nat.add_mul]; congr 1; omega
      · subst hw'
        refine hw.setAt hL rfl rfl rfl (by simp) ?_ (by simp) ?_ ?_
        · intro b o hm
          rw [List.mem_singleton] at hm
          cases hm
          rw [← hrowEq]
          exact heap_alloc_new w.drew _
        · intro b o hm
          rw [List.mem_singleton] at hm
          cases hm
          exact .inr (Nat.le_refl _)
        · intro q hq _
          exact heap_alloc_old w.drew _ q hq
    cases hv with
    | nil =>
      by_cases hm : m = 0
      · subst hm
        have hys : ys = [] := List.eq_nil_of_length_eq_zero (by simpa using hm0)
        subst hys
        refine ⟨.slice none 0 0, w, hex _ _ ?_, [], OVec.nil, ?_⟩
        · simp [Builtin.append_, srun_und, srun_sizeOf, Builtin.lenOf, Builtin.firstCells, loadCells, loadCellsFrom]
        · obtain ⟨A, B, h1, h2⟩ := getL_split hL
          rw [h2, ← h1]; exact hw
      · have hr1 := run_append_nil (P := P) w t X e ii z hu.h i1 i2 ad m c ys (by rw [i3]; exact hm0) hcell (by omega) (by omega) (by rw [i4]; simp only [Nat.zero_add] at hb; omega)
        simp only [Nat.zero_add] at grow ⊢
        obtain ⟨H', g1, g2⟩ := grow 0 _ _ rfl rfl (by simp)
        refine ⟨_, _, hex _ _ hr1, H', g1, ?_⟩
        simpa using g2
    | blk b nn cap xs r h1 h2 h3 h4 =>
      have hblk := (hw.blocks b _ (getL_flat hL (List.mem_singleton.2 rfl))).2
      by_cases hfit : nn + m ≤ cap
      · have hr1 := run_append_room (P := P) w t X e ii hu.h i1 b nn cap (xs ++ r).toArray hblk ad m c ys (by rw [i3]; exact hm0) hcell (oneCells_mem hones) hfit
          (by rw [i3, hm0]; simp only [List.size_toArray, h2, ← Nat.add_mul]; exact Nat.mul_le_mul_right _ hfit)
        refine ⟨_, _, hex _ _ hr1, [(b, srow ((xs ++ ys) ++ r.drop ys.length) e)], OVec.blk b _ _ _ _ ?_ ?_ hfit h4, ?_⟩
        · rw [List.length_append, h1, hm0, Nat.add_mul]
        · have hle : nn * kk + m * kk ≤ cap * kk := by rw [← Nat.add_mul]; exact Nat.mul_le_mul_right _ hfit
          simp only [List.length_append, List.length_drop, h1, hm0] at h2 ⊢
          omega
        · have he : ((xs ++ r).toArray.toList.take (nn * ii.size) ++ ys ++ (xs ++ r).toArray.toList.drop (nn * ii.size + ys.length)) = (xs ++ ys) ++ r.drop ys.length := by
            rw [i3, ← h1]
            simp [List.drop_append]
          rw [he]
          exact hw.srow hL
      · have hr1 := run_append_grow (P := P) w t X e ii z hu.h i1 i2 ⟨b, 0, none⟩ nn cap xs (by rw [i3]; exact h1) (fun j q hq => by
            rw [Addr.add_lit, Nat.zero_add]
            have hlt := (List.getElem?_eq_some_iff.1 hq).1
            simp [World.cell?, hblk, srow, List.getElem?_append_left hlt, hq]) ad m c ys (by rw [i3]; exact hm0) hcell (by omega) (by omega)
            (by rw [i4]; exact growslice_fits (by omega) hb)
        obtain ⟨H', g1, g2⟩ := grow cap _ _ rfl rfl h1
        exact ⟨_, _, hex _ _ hr1, H', g1, g2⟩
  · rintro w v' w' hw ⟨H', h1, h2⟩ a ha
    exact k v' H' h1 a w' ha h2

end
/-- the call hands back a value and new memory, and leaves the rest as it was -/
structure SYieldsF (P : Program) (f : FuncId) (args : Array Value) (Φ : Value → SPiece → Prop) (w : World) : Prop where
  run : Calls P f args w fun e w' => ∃ v H, e = .returned v ∧ Φ v H ∧ SFresh w w' H
section
variable {P : Program} {n : Nat} {lo : SMut} {s : World} {ops : Array Oper} {Q : Exit → Act → World → Prop} {E : SEnv} {L : SHeap} {d : Nat} {ty : TypeId} {pos : String} {after : Array Edge} {rest : List Oper}
/-- a call that hands back a value and new memory -/
theorem s_callF {f : FuncId} {args : List Operand} {ts : Array TypeId} {vs : List Value} (Φ : Value → SPiece → Prop) [hf : SCallee P f]
    (ha : svals E args = some vs) (hc : ∀ w, SSt lo s L w → SYieldsF P f vs.toArray Φ w) (hd : Nat.blt d n = true)
    (k : ∀ v H, Φ v H → WPL P n lo s ops Q rest ((d, v) :: E) (H :: L)) :
    WPL P n lo s ops Q (⟨some d, .call { callee := .value (.func f), args := args.toArray, argTypes := ts }, ty, pos, after, none⟩ :: rest) E L := by
  intro a w hs hw
  refine wpList_plain rfl fun K hK => ?_
  have h1 : (execOp a.eval ⟨some d, .call { callee := .value (.func f), args := args.toArray, argTypes := ts }, ty, pos, after, none⟩).run P w = .ok (.enter f vs.toArray) w := by
    simp [execOp, resolve, Act.eval, Deferred.ofValue, invoke, srun_callFunc hf, ← hs.svals ha]
  unfold Oper.wp
  rw [h1]
  refine (hc w hw).run.mono fun e w' he => ?_
  obtain ⟨v, H, rfl, hφ, hfr⟩ := he
  exact hK _ _ (k v H hφ _ _ (hs.put hd v) (hw.fresh hfr))

/-- a call that turns a piece of one's own; it may make new memory -/
theorem s_callM (i : Nat) {f : FuncId} {args : List Operand} {ts : Array TypeId} {vs : List Value} {H : SPiece} (Φ : Value → SPiece → Prop) [hf : SCallee P f]
    (ha : svals E args = some vs) (hL : getL L i = some H) (hc : ∀ w, SSt lo s L w → Calls P f vs.toArray w fun e w' => ∃ v H', e = .returned v ∧ Φ v H' ∧ SSt lo s (setL L i H') w') (hd : Nat.blt d n = true)
    (k : ∀ v H', Φ v H' → WPL P n lo s ops Q rest ((d, v) :: E) (setL L i H')) :
    WPL P n lo s ops Q (⟨some d, .call { callee := .value (.func f), args := args.toArray, argTypes := ts }, ty, pos, after, none⟩ :: rest) E L := by
  intro a w hs hw
  refine wpList_plain rfl fun K hK => ?_
  have h1 : (execOp a.eval ⟨some d, .call { callee := .value (.func f), args := args.toArray, argTypes := ts }, ty, pos, after, none⟩).run P w = .ok (.enter f vs.toArray) w := by
    simp [execOp, resolve, Act.eval, Deferred.ofValue, invoke, srun_callFunc hf, ← hs.svals ha]
  unfold Oper.wp
  rw [h1]
  refine (hc w hw).mono fun e w' he => ?_
  obtain ⟨v, H', rfl, hφ, hst⟩ := he
  exact hK _ _ (k v H' hφ _ _ (hs.put hd v) hst)
end

/-! ### which goal is this -/
section
variable {P : Program} {n : Nat} {lo : SMut} {s : World} {ops : Array Oper} {Q : Exit → Act → World → Prop} {E : SEnv} {L : SHeap} {d : Option Tmp} {ty : TypeId} {pos : String} {after : Array Edge} {rest : List Oper} {gd : Nat × Bool}
theorem kN {op : Op} (h : WPL P n lo s ops Q (⟨d, op, ty, pos, after, none⟩ :: rest) E L) : WPL P n lo s ops Q (⟨d, op, ty, pos, after, none⟩ :: rest) E L := h
theorem kG {op : Op} (h : WPL P n lo s ops Q (⟨d, op, ty, pos, after, some gd⟩ :: rest) E L) : WPL P n lo s ops Q (⟨d, op, ty, pos, after, some gd⟩ :: rest) E L := h
theorem kBin {o : BinOp} {xt yt : TypeId} {x y : Operand} (h : WPL P n lo s ops Q (⟨d, .binOp o xt x y yt, ty, pos, after, none⟩ :: rest) E L) : WPL P n lo s ops Q (⟨d, .binOp o xt x y yt, ty, pos, after, none⟩ :: rest) E L := h
theorem kCall {c : Call} (h : WPL P n lo s ops Q (⟨d, .call c, ty, pos, after, none⟩ :: rest) E L) : WPL P n lo s ops Q (⟨d, .call c, ty, pos, after, none⟩ :: rest) E L := h
theorem kLoad {t : TypeId} {x : Operand} (h : WPL P n lo s ops Q (⟨d, .load t x, ty, pos, after, none⟩ :: rest) E L) : WPL P n lo s ops Q (⟨d, .load t x, ty, pos, after, none⟩ :: rest) E L := h
theorem kIdx {t : TypeId} {x y : Operand} (h : WPL P n lo s ops Q (⟨d, .indexAddr t x y, ty, pos, after, none⟩ :: rest) E L) : WPL P n lo s ops Q (⟨d, .indexAddr t x y, ty, pos, after, none⟩ :: rest) E L := h
theorem kStore {t : TypeId} {x y : Operand} (h : WPL P n lo s ops Q (⟨d, .store t x y, ty, pos, after, none⟩ :: rest) E L) : WPL P n lo s ops Q (⟨d, .store t x y, ty, pos, after, none⟩ :: rest) E L := h
theorem kC {c : Code} (h : WPC P n lo s c Q E L) : WPC P n lo s c Q E L := h
theorem kCond {c : Operand} {x y : Code} (h : WPC P n lo s (.cond c x y) Q E L) : WPC P n lo s (.cond c x y) Q E L := h
theorem kE {e : Exit} (h : SEnds n lo s Q e E L) : SEnds n lo s Q e E L := h
theorem kQN {op : Op} (h : WPQ P n lo s ops Q (⟨d, op, ty, pos, after, none⟩ :: rest) E L) : WPQ P n lo s ops Q (⟨d, op, ty, pos, after, none⟩ :: rest) E L := h
theorem kQG {op : Op} (h : WPQ P n lo s ops Q (⟨d, op, ty, pos, after, some gd⟩ :: rest) E L) : WPQ P n lo s ops Q (⟨d, op, ty, pos, after, some gd⟩ :: rest) E L := h
theorem kQBin {o : BinOp} {xt yt : TypeId} {x y : Operand} (h : WPQ P n lo s ops Q (⟨d, .binOp o xt x y yt, ty, pos, after, none⟩ :: rest) E L) : WPQ P n lo s ops Q (⟨d, .binOp o xt x y yt, ty, pos, after, none⟩ :: rest) E L := h
theorem kQCall {c : Call} (h : WPQ P n lo s ops Q (⟨d, .call c, ty, pos, after, none⟩ :: rest) E L) : WPQ P n lo s ops Q (⟨d, .call c, ty, pos, after, none⟩ :: rest) E L := h
theorem kQLoad {t : TypeId} {x : Operand} (h : WPQ P n lo s ops Q (⟨d, .load t x, ty, pos, after, none⟩ :: rest) E L) : WPQ P n lo s ops Q (⟨d, .load t x, ty, pos, after, none⟩ :: rest) E L := h
theorem kQIdx {t : TypeId} {x y : Operand} (h : WPQ P n lo s ops Q (⟨d, .indexAddr t x y, ty, pos, after, none⟩ :: rest) E L) : WPQ P n lo s ops Q (⟨d, .indexAddr t x y, ty, pos, after, none⟩ :: rest) E L := h
end
end Sx

/-
  The engine, seventh part: contracts that make new memory, slices of ints, stores into them.
-/
namespace Sx
open Go

/-- a slice of ints -/
def RInts (w : World) (v : Value) (l : List Int) : Prop := RRow w v 1 l.length (fun i => [.int .i64 (l.getD i 0)])
theorem RInts.keep {w w' : World} {v : Value} {l : List Int} (h : RInts w v l) (hw : ∀ a u, w.cell? a = some u → w'.cell? a = some u) : RInts w' v l := RRow.keep h hw

theorem SSt.toFresh {s w : World} {L : SHeap} (h : SSt [] s L w) {i : Nat} {H : SPiece} (hi : getL L i = some H) : SFresh s w H := by
  refine ⟨h.below, fun b o hm => by simpa using h.blocks b o (getL_flat hi hm), ?_⟩
  have hs : H.Sublist L.flatten := List.sublist_flatten_of_mem (getL_mem hi)
  exact (hs.map _).nodup h.nodup
theorem SSt.toFresh0 {s w : World} {L : SHeap} (h : SSt [] s L w) : SFresh s w [] := ⟨h.below, (fun b o hm => by cases hm), List.nodup_nil⟩

def ivals (l : List Int) : List Value := l.map (Value.int .i64)
/-- an own slice of ints -/
def OInts (T : TypeId) (v : Value) (l : List Int) (H : SPiece) : Prop := OVec 1 T v l.length (ivals l) H

theorem flat_ivals : ∀ (l : List Int), ivals l = (List.range l.length).flatMap (fun i => [Value.int .i64 (l.getD i 0)])
  | [] => rfl
  | x :: l => by
    have := flat_ivals l
    rw [List.length_cons, List.range_succ_eq_map, List.flatMap_cons, List.flatMap_map]
    simp only [ivals, List.map_cons] at this ⊢
    rw [this]
    rfl

theorem OInts.reads {T : TypeId} {v : Value} {l : List Int} {H : SPiece} (h : OInts T v l H) {w : World} (hw : ∀ b o, (b, o) ∈ H → w.heap[b]? = some o) : RInts w v l := by
  refine OVec.reads h hw ?_ (fun i hi => rfl) (flat_ivals l)
  have key : ∀ {n : Nat} {xs : List Value}, OVec 1 T v n xs H → n ≤ 9223372036854775807 := by
    intro n xs hh
    cases hh with
    | nil => omega
    | blk b n cap xs r h1 h2 h3 h4 => exact Nat.le_trans h3 (Nat.le_trans h4 (by decide))
  exact key h
theorem OInts.readsAt {T : TypeId} {v : Value} {l : List Int} {H : SPiece} (h : OInts T v l H) {lo : SMut} {s : World} {L : SHeap} {i : Nat} (hi : getL L i = some H) : ∀ w, SSt lo s L w → RInts w v l :=
  fun w hw => h.reads (hw.piece hi)

section
variable {P : Program} {n : Nat} {lo : SMut} {s : World} {ops : Array Oper} {Q : Exit → Act → World → Prop} {E : SEnv} {L : SHeap} {ty : TypeId} {pos : String} {after : Array Edge} {rest : List Oper}
theorem putN'_lt : ∀ (l : List Value) (i : Nat) (v : Value) (acc : List Value), i < l.length → putN' l i v acc = some (acc.reverse ++ l.set i v)
  | [], i, v, acc, h => by simp at h
  | x :: l, 0, v, acc, _ => by simp [putN', sfin_eq]
  | x :: l, i + 1, v, acc, h => by
    rw [putN', putN'_lt l i v (x :: acc) (by simpa using h)]
    simp
/-- a store of one cell into a block known as a list -/
theorem s_setR (i : Nat) {T U : TypeId} {x y : Operand} {b o by_ : Nat} {z v : Value} {l : List Value} [hi : SInf P T z 1 by_]
    (hx : sval E x = some (.pointer (some ⟨b, o, none⟩))) (hy : sval E y = some v) (hb : getL L i = some [(b, srow l U)]) (h1 : v.oneCell' = true) (hl : o < l.length)
    (k : WPL P n lo s ops Q rest E (setL L i [(b, srow (l.set o v) U)])) : WPL P n lo s ops Q (⟨none, .store T x y, ty, pos, after, none⟩ :: rest) E L :=
  s_store1 i hx hy hb h1 (by rw [putN, putN'_lt l o v [] hl]; rfl) k
end

/-- the first j of xs, then z -/
def fillTo (xs : List Value) (z : Value) (j : Nat) : List Value := xs.take j ++ List.replicate (xs.length - j) z
theorem fillTo_zero (xs : List Value) (z : Value) : List.replicate xs.length z = fillTo xs z 0 := by simp [fillTo]
theorem fillTo_all (xs : List Value) (z : Value) : fillTo xs z xs.length = xs := by simp [fillTo]
theorem fillTo_length (xs : List Value) (z : Value) (j : Nat) (h : j ≤ xs.length) : (fillTo xs z j).length = xs.length := by simp [fillTo]; omega
theorem fillTo_set (xs : List Value) (z v : Value) (j : Nat) (h : j < xs.length) (hv : xs[j]? = some v) : (fillTo xs z j).set j v = fillTo xs z (j + 1) := by
  unfold fillTo
  have h1 : xs.length - j = (xs.length - (j + 1)) + 1 := by omega
  have hlen : (xs.take j).length = j := by simp; omega
  rw [List.set_append_right _ _ (by omega), hlen, Nat.sub_self, h1, List.replicate_succ, List.set_cons_zero, List.take_add_one, hv]
  simp
theorem ivals_get {l : List Int} {j : Nat} (h : j < l.length) : (ivals l)[j]? = some (.int .i64 (l.getD j 0)) := by
  simp [ivals, List.getElem?_eq_getElem h]
theorem take_next {k l : List Int} {j : Nat} (h : k.take j = l.take j) (hk : j < k.length) (hl : j < l.length) (he : k.getD j 0 = l.getD j 0) : k.take (j + 1) = l.take (j + 1) := by
  rw [List.take_add_one, List.take_add_one, h]
  simp only [List.getD_eq_getElem?_getD, List.getElem?_eq_getElem hk, List.getElem?_eq_getElem hl, Option.getD_some] at he ⊢
  rw [he]
theorem eq_of_take {k l : List Int} {j : Nat} (h : k.take j = l.take j) (hk : k.length ≤ j) (hl : l.length ≤ j) : k = l := by
  rwa [List.take_of_length_le hk, List.take_of_length_le hl] at h
theorem ne_of_getD {k l : List Int} {j : Nat} (h : k.getD j 0 ≠ l.getD j 0) : ¬ k = l := fun e => h (by rw [e])
theorem ne_of_len {α : Type} {k l : List α} (h : k.length ≠ l.length) : ¬ k = l := fun e => h (by rw [e])
theorem ivals_length (l : List Int) : (ivals l).length = l.length := by simp [ivals]

section
variable {P : Program} {n : Nat} {lo : SMut} {s : World} {E : SEnv} {L : SHeap} {d : Option Tmp} {ty : TypeId} {pos : String} {after : Array Edge} {g : Option (Nat × Bool)}
theorem ov_conv {x : Operand} {src dst : TypeId} {sd : TypeDesc} {k : IntKind} {i : Int} [hs : SUnd P src sd] [hd : SUnd P dst (.int .i64)] (hx : sval E x = some (.int k i)) (h : -9223372036854775808 ≤ i ∧ i ≤ 9223372036854775807) :
    SOpV P n lo s E L ⟨d, .convert src dst x, ty, pos, after, g⟩ (.int .i64 i) :=
  SOpV.of_run fun a ha w hw => by
    have e : P.intKind dst = .i64 := by unfold Program.intKind; rw [hd.h]
    have h1 := run_convert_int (P := P) (w := w) src dst k i (by rw [hs.h]; rfl) (by rw [e]; exact hd.h)
    rw [e] at h1
    simp [execOp, ha.sval hx, h1, IntWalk.i64_in i h]
end

/-- or with fewer than m low places is plus -/
theorem or_low (a b m : Nat) (h : b < 2 ^ m) : (a * 2 ^ m) ||| b = a * 2 ^ m + b := by
  rw [Nat.mul_comm]; exact (Nat.two_pow_add_eq_or_of_lt h a).symm
section
variable {P : Program} {n : Nat} {lo : SMut} {s : World} {E : SEnv} {L : SHeap} {d : Option Tmp} {ty : TypeId} {pos : String} {after : Array Edge} {g : Option (Nat × Bool)}
theorem ov_orS (m : Nat) {x y : Operand} {xt yt : TypeId} {i j p : Int} (hp : (2 : Int) ^ m = p) (hx : sval E x = some (.int .i64 (i * p))) (hy : sval E y = some (.int .i64 j)) (hi : 0 ≤ i ∧ i * p ≤ 9223372036854775807) (hj : 0 ≤ j ∧ j < p ∧ p ≤ 9223372036854775807) :
    SOpV P n lo s E L ⟨d, .binOp .or xt x y yt, ty, pos, after, g⟩ (.int .i64 (i * p + j)) := by
  subst hp
  obtain ⟨a, rfl⟩ := Int.eq_ofNat_of_zero_le hi.1
  obtain ⟨b, rfl⟩ := Int.eq_ofNat_of_zero_le hj.1
  have h1 : 0 ≤ (a : Int) * 2 ^ m := Int.mul_nonneg (by omega) (Int.le_of_lt (Int.pow_pos (by omega)))
  have := ov_or (P := P) (n := n) (lo := lo) (s := s) (L := L) (d := d) (ty := ty) (pos := pos) (after := after) (g := g) (xt := xt) (yt := yt) hx hy ⟨h1, hi.2⟩ (by omega)
  have e : ((((a : Int) * 2 ^ m).toNat ||| ((b : Int)).toNat : Nat) : Int) = (a : Int) * 2 ^ m + b := by
    have e1 : ((a : Int) * 2 ^ m) = ((a * 2 ^ m : Nat) : Int) := by push_cast; rfl
    have hb : b < 2 ^ m := by have := hj.2.1; exact_mod_cast this
    rw [e1, Int.toNat_natCast, Int.toNat_natCast, or_low a b m hb]; push_cast; rfl
  rw [e] at this
  exact this
end

/-- a slice of bytes -/
def RBytes (w : World) (v : Value) (l : List Int) : Prop := RRow w v 1 l.length (fun i => [.int .u8 (l.getD i 0)]) ∧ ∀ i, i < l.length → 0 ≤ l.getD i 0 ∧ l.getD i 0 ≤ 255
theorem RBytes.keep {w w' : World} {v : Value} {l : List Int} (h : RBytes w v l) (hw : ∀ a u, w.cell? a = some u → w'.cell? a = some u) : RBytes w' v l := ⟨RRow.keep h.1 hw, h.2⟩

theorem RInts.form {w : World} {v : Value} {l : List Int} (h : RInts w v l) : ∃ a c, v = .slice a l.length c := by
  obtain ⟨a, c, e, _⟩ := RRow.form h; exact ⟨a, c, e⟩
theorem OInts.form {T : TypeId} {v : Value} {l : List Int} {H : SPiece} (h : OInts T v l H) : ∃ a c, v = .slice a l.length c := by
  have key : ∀ {n : Nat} {xs : List Value}, OVec 1 T v n xs H → ∃ a c, v = .slice a n c := by
    intro n xs hh
    cases hh with
    | nil => exact ⟨none, 0, rfl⟩
    | blk b n cap xs r h1 h2 h3 h4 => exact ⟨_, _, rfl⟩
  exact key h
/-- new memory out of several pieces -/
theorem SSt.toFreshL {s w : World} {L Hs : SHeap} (h : SSt [] s L w) (hs : Hs.Sublist L) : SFresh s w Hs.flatten := by
  refine ⟨h.below, fun b o hm => by simpa using h.blocks b o ((sub_flatten hs).subset hm), ?_⟩
  exact ((sub_flatten hs).map _).nodup h.nodup
theorem Holds.sub {w : World} {Hs : SHeap} (h : Holds w Hs.flatten) {H : SPiece} {i : Nat} (hi : getL Hs i = some H) : Holds w H := fun b o hm => h b o (getL_flat hi hm)
theorem SSt.holds {lo : SMut} {s w : World} {L : SHeap} (h : SSt lo s L w) {i : Nat} {H : SPiece} (hi : getL L i = some H) : Holds w H := h.piece hi

section
variable {P : Program} {n : Nat} {lo : SMut} {s : World} {ops : Array Oper} {Q : Exit → Act → World → Prop} {L0 : SHeap} {tail : Option Nat} {l : SPlan} {E : SEnv} {L : SHeap}
theorem kS (h : WPS P n lo s ops Q L0 tail l E L) : WPS P n lo s ops Q L0 tail l E L := h
end
end Sx

/-
  The engine, eighth part: contracts that turn a piece of the caller's; loops whose frame is found by itself; several results.
-/
namespace Sx
open Go

/-- the call turns the piece H and hands back a value and new memory; the rest is as it was -/
structure SYieldsG (P : Program) (f : FuncId) (args : Array Value) (H : SPiece) (Φ : Value → SPiece → SPiece → Prop) (w : World) : Prop where
  run : Calls P f args w fun e w' => ∃ v H' F, e = .returned v ∧ Φ v H' F ∧ SSt H.keys w [H', F] w'

theorem s_enterM {H : SPiece} {P : Program} {f : FuncId} {fn : Func} {c : Code} {vs : List Value} {w : World} {R : Ending → World → Prop} {n : Nat}
    (hf : P.funcs[f]? = some fn) (hb : fn.body = some c) (hn : fn.ntmps = n) (hl : Nat.ble vs.length n = true) (hH : Holds w H) (hnd : H.keys.Nodup)
    (h : WPC P n H.keys w c (bodyPost P fn R) (szipFrom 0 vs []) [H]) : Calls P f vs.toArray w R := s_enterG hf hb hn hl (SSt.initM hH hnd) h

theorem SSt.keysNodup {lo : SMut} {s w : World} {L : SHeap} (h : SSt lo s L w) {i : Nat} {H : SPiece} (hi : getL L i = some H) : H.keys.Nodup :=
  ((List.sublist_flatten_of_mem (getL_mem hi)).map _).nodup h.nodup

section
variable {P : Program} {n : Nat} {lo : SMut} {s : World} {ops : Array Oper} {Q : Exit → Act → World → Prop} {E : SEnv} {L : SHeap} {d : Nat} {ty : TypeId} {pos : String} {after : Array Edge} {rest : List Oper}

/-- a call that turns piece number i and makes new memory -/
theorem s_callG (i : Nat) {f : FuncId} {args : List Operand} {ts : Array TypeId} {vs : List Value} {H : SPiece} (Φ : Value → SPiece → SPiece → Prop) [hf : SCallee P f]
    (ha : svals E args = some vs) (hL : getL L i = some H) (hc : ∀ w, SSt lo s L w → Holds w H → H.keys.Nodup → SYieldsG P f vs.toArray H Φ w) (hd : Nat.blt d n = true)
    (k : ∀ v H' F, Φ v H' F → WPL P n lo s ops Q rest ((d, v) :: E) (F :: setL L i H')) :
    WPL P n lo s ops Q (⟨some d, .call { callee := .value (.func f), args := args.toArray, argTypes := ts }, ty, pos, after, none⟩ :: rest) E L := by
  intro a w hs hw
  refine wpList_plain rfl fun K hK => ?_
  have h1 : (execOp a.eval ⟨some d, .call { callee := .value (.func f), args := args.toArray, argTypes := ts }, ty, pos, after, none⟩).run P w = .ok (.enter f vs.toArray) w := by
    simp [execOp, resolve, Act.eval, Deferred.ofValue, invoke, srun_callFunc hf, ← hs.svals ha]
  unfold Oper.wp
  rw [h1]
  refine (hc w hw (hw.holds hL) (hw.keysNodup hL)).run.mono fun e w' he => ?_
  obtain ⟨v, H', F, rfl, hφ, hst⟩ := he
  exact hK _ _ (k v H' F hφ _ _ (hs.put hd v) (hw.turn hL hst))
end

/-! ### reading beside what turns -/
theorem SSt.cellsM {lo : SMut} {s w : World} {L : SHeap} (h : SSt lo s L w) {a : Addr} {u : Value} (ha : a.block ∉ lo) (hu : s.cell? a = some u) : w.cell? a = some u := by
  rw [World.cell?_of_block (w := s) (h.kept.block a.block (World.block_lt_of_cell? s a hu) ha)]; exact hu
/-- nothing of v lies in these blocks -/
def Apart (lo : SMut) (v : Value) : Prop := (baseOf v).1 ∉ lo
theorem RRow.keepM {lo : SMut} {s w : World} {L : SHeap} {v : Value} {k n : Nat} {cells : Nat → List Value} (h : RRow s v k n cells) (hv : Apart lo v) (hw : SSt lo s L w) : RRow w v k n cells :=
  ⟨h.form, h.len, h.size, fun i hi j u hu => hw.cellsM (a := ⟨(baseOf v).1, (baseOf v).2 + i * k + j, none⟩) hv (h.cell i hi j u hu), h.room⟩
theorem RInts.keepM {lo : SMut} {s w : World} {L : SHeap} {v : Value} {l : List Int} (h : RInts s v l) (hv : Apart lo v) (hw : SSt lo s L w) : RInts w v l := RRow.keepM h hv hw
theorem RBytes.keepM {lo : SMut} {s w : World} {L : SHeap} {v : Value} {l : List Int} (h : RBytes s v l) (hv : Apart lo v) (hw : SSt lo s L w) : RBytes w v l := ⟨RRow.keepM h.1 hv hw, h.2⟩
theorem apart_nil (v : Value) : Apart [] v := by simp [Apart]

/-! ### loops -/
def memN : List Nat → Nat → Bool
  | [], _ => false
  | s :: r, t => bif Nat.beq s t then true else memN r t
theorem memN_iff : ∀ (l : List Nat) (t : Nat), memN l t = true ↔ t ∈ l
  | [], t => by simp [memN]
  | s :: r, t => by
    have ih := memN_iff r t
    show (bif Nat.beq s t then true else memN r t) = true ↔ _
    cases hb : Nat.beq s t with
    | true => simp [Nat.eq_of_beq_eq_true hb]
    | false =>
      have : t ≠ s := by intro e; subst e; simp at hb
      simp [ih, this]
def sonto : SEnv → SEnv → Option SEnv
  | [], acc => some acc
  | p :: r, acc => sonto r (p :: acc)
theorem sonto_eq : ∀ (l acc : SEnv), sonto l acc = some (l.reverse ++ acc)
  | [], acc => rfl
  | p :: r, acc => by simp [sonto, sonto_eq r]
/-- the frame without these slots, each slot once -/
def sdrop : List Nat → SEnv → SEnv → Option SEnv
  | _, [], acc => sonto acc []
  | ks, (s, v) :: r, acc => bif memN ks s then sdrop ks r acc else sdrop (s :: ks) r ((s, v) :: acc)
theorem sdrop_eq : ∀ (E : SEnv) (ks : List Nat) (acc F : SEnv), sdrop ks E acc = some F → ∃ R, F = acc.reverse ++ R ∧ ∀ t, slook R t = if t ∈ ks then none else slook E t
  | [], ks, acc, F, h => by
    simp only [sdrop, sonto_eq, Option.some.injEq] at h
    exact ⟨[], by simp [← h], fun t => by simp [slook]⟩
  | (s, v) :: r, ks, acc, F, h => by
    cases hm : memN ks s with
    | true =>
      have hs : s ∈ ks := (memN_iff ks s).1 hm
      obtain ⟨R, h1, h2⟩ := sdrop_eq r ks acc F (by simpa [sdrop, hm] using h)
      refine ⟨R, h1, fun t => ?_⟩
      rw [h2, slook_cons]
      by_cases ht : t ∈ ks
      · simp [ht]
      · have : s ≠ t := fun e => ht (e ▸ hs)
        simp [ht, this]
    | false =>
      have hs : s ∉ ks := fun hk => by have := (memN_iff ks s).2 hk; rw [hm] at this; cases this
      obtain ⟨R, h1, h2⟩ := sdrop_eq r (s :: ks) ((s, v) :: acc) F (by simpa [sdrop, hm] using h)
      refine ⟨(s, v) :: R, by simp [h1], fun t => ?_⟩
      rw [slook_cons, slook_cons, h2]
      by_cases hst : s = t
      · subst hst; simp [hs]
      · have hst' : ¬ t = s := fun e => hst e.symm
        simp [hst, hst']
/-- the slots that a code writes -/
def owr : List Oper → List Nat → List Nat
  | [], acc => acc
  | o :: r, acc => match o.dst with
    | some d => owr r (d :: acc)
    | none => owr r acc
def cwr : Code → List Nat → List Nat
  | .region _ ops _, acc => owr ops.toList acc
  | .seq a b, acc => cwr a (cwr b acc)
  | .cond _ a b, acc => cwr a (cwr b acc)
  | .block _ a, acc => cwr a acc
  | .loop a, acc => cwr a acc
  | .scope a, acc => cwr a acc
  | _, acc => acc
def sloopE (c : Code) (E : SEnv) : Option SEnv := sdrop (cwr c []) E []
theorem sloopE_sub {n : Nat} {a : Act} {c : Code} {E F : SEnv} (h : sloopE c E = some F) (ha : SSat n a E) : SSat n a F := by
  obtain ⟨R, h1, h2⟩ := sdrop_eq E _ [] F h
  simp only [List.reverse_nil, List.nil_append] at h1
  subst h1
  refine ⟨ha.defers, ha.size, fun t v hv => ha.slots t v ?_⟩
  rw [h2] at hv
  split at hv
  · cases hv
  · exact hv
/-- two frames, one before the other -/
def sapp (A B : SEnv) : Option SEnv := sapp' (srevE A []) B
where
  srevE : SEnv → SEnv → SEnv
    | [], acc => acc
    | p :: r, acc => srevE r (p :: acc)
  sapp' : SEnv → SEnv → Option SEnv
    | [], acc => some acc
    | p :: r, acc => sapp' r (p :: acc)
theorem srevE_eq : ∀ (l acc : SEnv), sapp.srevE l acc = l.reverse ++ acc
  | [], acc => rfl
  | p :: r, acc => by simp [sapp.srevE, srevE_eq r]
theorem sapp'_eq : ∀ (l acc : SEnv), sapp.sapp' l acc = some (l.reverse ++ acc)
  | [], acc => rfl
  | p :: r, acc => by simp [sapp.sapp', sapp'_eq r]
theorem sapp_eq (A B : SEnv) : sapp A B = some (A ++ B) := by simp [sapp, srevE_eq, sapp'_eq]
theorem slook_append : ∀ (A B : SEnv) (t : Nat), slook (A ++ B) t = (slook A t).or (slook B t)
  | [], B, t => by simp [slook]
  | (s, v) :: A, B, t => by
    rw [List.cons_append, slook_cons, slook_cons, slook_append A B t]
    split <;> simp
theorem SSat.both {n : Nat} {a : Act} {A B : SEnv} (ha : SSat n a A) (hb : SSat n a B) : SSat n a (A ++ B) :=
  ⟨ha.defers, ha.size, fun t v hv => by
    rw [slook_append] at hv
    cases h : slook A t with
    | none => rw [h] at hv; exact hb.slots t v (by simpa using hv)
    | some u => rw [h] at hv; simp at hv; subst hv; exact ha.slots t u h⟩

theorem slook_to {E : SEnv} {t : Nat} {v u : Value} (h : slook E t = some v) (e : v = u) : slook E t = some u := by rw [← e]; exact h
theorem vint_to {i j : Int} (h : i = j) : Value.int .i64 i = .int .i64 j := by rw [h]
section
variable {P : Program} {n : Nat} {lo : SMut} {s : World} {Q : Exit → Act → World → Prop}
/-- A loop: V i are the slots that turn; what the body does not write stays. -/
theorem c_loopV {ι : Type} {c : Code} {E E0 : SEnv} {L : SHeap} (I : ι → Prop) (V : ι → SEnv) (H : ι → SHeap) (μ : ι → Nat) (i0 : ι) (h0 : I i0) {F : ι → SEnv} (hE0 : sloopE c E = some E0) (hF : ∀ i, sapp (V i) E0 = some (F i))
    (hE : SSub E (V i0)) (hL : ∀ w, SSt lo s L w → SSt lo s (H i0) w)
    (round : ∀ i, I i → WPC P n lo s c (Exit.then (fun a w => ∃ j, I j ∧ SSat n a (F j) ∧ SSt lo s (H j) w ∧ μ j < μ i) Q) (F i) (H i)) : WPC P n lo s (.loop c) Q E L := by
  have hF' : ∀ i, F i = V i ++ E0 := fun i => by have := hF i; rw [sapp_eq] at this; exact (Option.some.inj this).symm
  exact c_loopG I F H μ i0 h0 (fun a ha => by rw [hF']; exact (ha.sub hE).both (sloopE_sub hE0 ha)) hL round
end
theorem set_ivals (l : List Int) (r : List Value) {j : Nat} (h : j < l.length) {v : Int} : (ivals l ++ r).set j (.int .i64 v) = ivals (l.set j v) ++ r := by
  rw [List.set_append_left _ _ (by rw [ivals_length]; exact h)]
  simp [ivals, List.map_set]
end Sx

/-
  The engine, ninth part: slices of structs that hold a slice each; several results.
-/
namespace Sx
open Go

/-- how a struct with one inner slice lies in memory -/
structure SElem (α : Type) where
  k : Nat
  dflt : α
  cells : α → Value → List Value
  klen : ∀ a d, (cells a d).length = k
  rd : World → Value → α → Prop
  own : Value → α → SPiece → Prop
  keep : ∀ {w w' : World} {d : Value} {a : α}, rd w d a → (∀ p u, w.cell? p = some u → w'.cell? p = some u) → rd w' d a
  reads : ∀ {w : World} {d : Value} {a : α} {H : SPiece}, own d a H → Holds w H → rd w d a

section
variable {α : Type} {e : SElem α}
/-- v reads as these structs; ds are their inner slices -/
structure RElems (e : SElem α) (w : World) (v : Value) (l : List α) (ds : Nat → Value) : Prop where
  row : RRow w v e.k l.length (fun i => e.cells (l.getD i e.dflt) (ds i))
  rd : ∀ i, i < l.length → e.rd w (ds i) (l.getD i e.dflt)
theorem RElems.keep {w w' : World} {v : Value} {l : List α} {ds : Nat → Value} (h : RElems e w v l ds) (hw : ∀ p u, w.cell? p = some u → w'.cell? p = some u) : RElems e w' v l ds :=
  ⟨h.row.keep hw, fun i hi => e.keep (h.rd i hi) hw⟩
theorem RElems.form {w : World} {v : Value} {l : List α} {ds : Nat → Value} (h : RElems e w v l ds) : ∃ a c, v = .slice a l.length c := by
  obtain ⟨a, c, h1, _⟩ := h.row.form; exact ⟨a, c, h1⟩

def erows (e : SElem α) (l : List α) (ds : Nat → Value) (n : Nat) : List Value := (List.range n).flatMap (fun i => e.cells (l.getD i e.dflt) (ds i))
def ecat (Hs : Nat → SPiece) (n : Nat) : SPiece := (List.range n).flatMap Hs
theorem erows_zero (e : SElem α) (l : List α) (ds : Nat → Value) : erows e l ds 0 = [] := rfl
theorem ecat_zero (Hs : Nat → SPiece) : ecat Hs 0 = [] := rfl
theorem erows_succ (e : SElem α) (l : List α) (ds : Nat → Value) (n : Nat) : erows e l ds (n + 1) = erows e l ds n ++ e.cells (l.getD n e.dflt) (ds n) := by
  simp [erows, List.range_succ]
theorem ecat_succ (Hs : Nat → SPiece) (n : Nat) : ecat Hs (n + 1) = ecat Hs n ++ Hs n := by simp [ecat, List.range_succ]
theorem erows_length (e : SElem α) (l : List α) (ds : Nat → Value) : ∀ n, (erows e l ds n).length = n * e.k
  | 0 => by simp [erows_zero]
  | n + 1 => by rw [erows_succ, List.length_append, erows_length e l ds n, e.klen, Nat.succ_mul]
theorem erows_congr (e : SElem α) {l m : List α} {ds es : Nat → Value} : ∀ {n : Nat}, (∀ i, i < n → l.getD i e.dflt = m.getD i e.dflt ∧ ds i = es i) → erows e l ds n = erows e m es n
  | 0, _ => rfl
  | n + 1, h => by rw [erows_succ, erows_succ, erows_congr e (fun i hi => h i (by omega)), (h n (by omega)).1, (h n (by omega)).2]
theorem ecat_congr {Hs Gs : Nat → SPiece} : ∀ {n : Nat}, (∀ i, i < n → Hs i = Gs i) → ecat Hs n = ecat Gs n
  | 0, _ => rfl
  | n + 1, h => by rw [ecat_succ, ecat_succ, ecat_congr (fun i hi => h i (by omega)), h n (by omega)]
theorem ecat_sub {Hs : Nat → SPiece} {w : World} {n : Nat} (h : Holds w (ecat Hs n)) {i : Nat} (hi : i < n) : Holds w (Hs i) := fun b o hm =>
  h b o (List.mem_flatMap.2 ⟨i, List.mem_range.2 hi, hm⟩)

/-- a slice of one's own of such structs -/
def OElems (e : SElem α) (U : TypeId) (v : Value) (l : List α) (H : SPiece) : Prop :=
  ∃ (ds : Nat → Value) (H0 : SPiece) (Hs : Nat → SPiece) (G : SPiece), OVec e.k U v l.length (erows e l ds l.length) H0 ∧ (∀ i, i < l.length → e.own (ds i) (l.getD i e.dflt) (Hs i)) ∧ H = H0 ++ (ecat Hs l.length ++ G)

theorem OVec.le {k : Nat} {T : TypeId} {v : Value} {n : Nat} {xs : List Value} {H : SPiece} (h : OVec k T v n xs H) : n ≤ maxLen := by
  cases h with
  | nil => exact Nat.zero_le _
  | blk b n cap xs r h1 h2 h3 h4 => exact Nat.le_trans h3 h4
theorem OVec.form {k : Nat} {T : TypeId} {v : Value} {n : Nat} {xs : List Value} {H : SPiece} (h : OVec k T v n xs H) : ∃ a c, v = .slice a n c := by
  cases h with
  | nil => exact ⟨_, _, rfl⟩
  | blk b n cap xs r h1 h2 h3 h4 => exact ⟨_, _, rfl⟩
theorem OElems.form {U : TypeId} {v : Value} {l : List α} {H : SPiece} (h : OElems e U v l H) : ∃ a c, v = .slice a l.length c := by
  obtain ⟨ds, H0, Hs, G, h1, _⟩ := h; exact h1.form
theorem Holds.left {w : World} {A B : SPiece} (h : Holds w (A ++ B)) : Holds w A := fun b o hm => h b o (List.mem_append_left _ hm)
theorem Holds.right {w : World} {A B : SPiece} (h : Holds w (A ++ B)) : Holds w B := fun b o hm => h b o (List.mem_append_right _ hm)
theorem OElems.reads {U : TypeId} {v : Value} {l : List α} {H : SPiece} (h : OElems e U v l H) {w : World} (hw : Holds w H) : ∃ ds, RElems e w v l ds := by
  obtain ⟨ds, H0, Hs, G, h1, h2, rfl⟩ := h
  refine ⟨ds, h1.reads hw.left (Nat.le_trans h1.le (by decide)) (fun i hi => e.klen _ _) rfl, fun i hi => e.reads (h2 i hi) (ecat_sub hw.right.left hi)⟩

/-- the rows behind j rounds of a loop that fills a new block: j rows are there, the rest is zero -/
def efill (e : SElem α) (l : List α) (ds : Nat → Value) (z : List Value) (n j : Nat) : List Value := erows e l ds j ++ (List.replicate (n - j) z).flatten
theorem efill_zero (e : SElem α) (l : List α) (ds : Nat → Value) (z : List Value) (n : Nat) : efill e l ds z n 0 = (List.replicate n z).flatten := by simp [efill, erows_zero]
theorem efill_all (e : SElem α) (l : List α) (ds : Nat → Value) (z : List Value) (n : Nat) : efill e l ds z n n = erows e l ds n := by simp [efill]
theorem flatten_replicate_length (z : List Value) (k : Nat) (hz : z.length = k) : ∀ n, (List.replicate n z).flatten.length = n * k
  | 0 => by simp
  | n + 1 => by rw [List.replicate_succ, List.flatten_cons, List.length_append, flatten_replicate_length z k hz n, hz, Nat.succ_mul]; omega
theorem efill_length (e : SElem α) (l : List α) (ds : Nat → Value) (z : List Value) (hz : z.length = e.k) (n j : Nat) (hj : j ≤ n) : (efill e l ds z n j).length = n * e.k := by
  rw [efill, List.length_append, erows_length, flatten_replicate_length z e.k hz, ← Nat.add_mul]; congr 1; omega
theorem efill_next (e : SElem α) (l : List α) (ds es : Nat → Value) (z : List Value) (hz : z.length = e.k) (n j : Nat) (hj : j < n) (u : Value) (hd : ∀ i, i < j → es i = ds i) (hu : es j = u) :
    (efill e l ds z n j).take (j * e.k) ++ e.cells (l.getD j e.dflt) u ++ (efill e l ds z n j).drop (j * e.k + e.k) = efill e l es z n (j + 1) := by
  have h1 := erows_length e l ds j
  unfold efill
  rw [List.take_append_of_le_length (by omega), List.take_of_length_le (by omega), List.drop_append, List.drop_of_length_le (by omega), List.nil_append, h1]
  have h2 : j * e.k + e.k - j * e.k = e.k := by omega
  have h3 : n - j = (n - (j + 1)) + 1 := by omega
  rw [h2, h3, List.replicate_succ, List.flatten_cons, List.drop_append_of_le_length (by omega), List.drop_of_length_le (by omega), List.nil_append]
  rw [erows_succ, erows_congr e (l := l) (m := l) (ds := es) (es := ds) (fun i hi => ⟨rfl, hd i hi⟩), hu]
end

/-! ### several results -/
inductive SRes (P : Program) (E : SEnv) (L : SHeap) : List ResultVar → List Value → Prop
  | nil : SRes P E L [] []
  | tmp {t : Tmp} {v : Value} {r : List ResultVar} {vs : List Value} (hv : slook E t = some v) (h : SRes P E L r vs) : SRes P E L (.tmp t :: r) (v :: vs)
  | cell {t : Tmp} {T U : TypeId} {b : Nat} {l : List Value} {td : TypeDesc} {z : Value} {k by_ : Nat} {r : List ResultVar} {vs : List Value} [hu : SUnd P T td] [hi : SInf P T z k by_]
      (ht : slook E t = some (.pointer (some ⟨b, 0, none⟩))) (hd : sisRow td = true) (hb : (b, srow l U) ∈ L.flatten) (hl : l.length = k) (h : SRes P E L r vs) : SRes P E L (.cell t T :: r) (.agg l.toArray :: vs)
  | cell1 {t : Tmp} {T U : TypeId} {b : Nat} {v : Value} {td : TypeDesc} {r : List ResultVar} {vs : List Value} [hu : SUnd P T td]
      (ht : slook E t = some (.pointer (some ⟨b, 0, none⟩))) (hd : sisRow td = false) (hb : (b, srow [v] U) ∈ L.flatten) (h : SRes P E L r vs) : SRes P E L (.cell t T :: r) (v :: vs)

section
variable {P : Program} {n : Nat} {lo : SMut} {s : World} {E : SEnv} {L : SHeap} {fn : Func} {R : Ending → World → Prop}
theorem SRes.run {rs : List ResultVar} {vs : List Value} (h : SRes P E L rs vs) {a : Act} {w : World} (ha : SSat n a E) (hw : SSt lo s L w) {f : ResultVar → Sem Value} (h1 : ∀ t, f (.tmp t) = pure (a.tmps.getD t undef))
    (h2 : ∀ p t, f (.cell p t) = (do loadVar t (← asAddr (a.tmps.getD p undef)))) : (rs.mapM f).run P w = .ok vs w := by
  induction h with
  | nil => simp
  | tmp hv h ih => rw [List.mapM_cons, h1]; simp [ha.slots _ _ hv, ih]
  | @cell t T U b l td z k by_ r vs hu hi ht hd hb hl h ih =>
    rw [List.mapM_cons, h2]
    have h1 := run_loadCells_list (P := P) w ⟨b, 0, none⟩ l (fun j v hj => by rw [Addr.add_lit, Nat.zero_add]; exact hw.cell hb (by rw [snth_eq]; exact hj))
    rw [hl] at h1
    have hs := ha.slots t _ ht
    simp [hs, asAddr, loadVar, srun_isAgg, hd, srun_sizeOf, h1, ih]
  | @cell1 t T U b v td r vs hu ht hd hb h ih =>
    rw [List.mapM_cons, h2]
    have hs := ha.slots t _ ht
    have hc : w.cell? ⟨b, 0, none⟩ = some v := hw.cell hb rfl
    simp [hs, asAddr, loadVar, srun_isAgg, hd, hc, ih]
theorem SRes.len {rs : List ResultVar} {vs : List Value} (h : SRes P E L rs vs) : vs.length = rs.length := by
  induction h <;> simp_all
theorem s_leaveN {rs : List ResultVar} {vs : List Value} (hr : fn.results.toList = rs) (h2 : Nat.beq rs.length 1 = false) (hres : SRes P E L rs vs) (h : ∀ w, SSt lo s L w → R (.returned (.tuple vs.toArray)) w) (x : Exit) (hx : x = .ret ∨ x = .normal) :
    SEnds n lo s (bodyPost P fn R) x E L := by
  have hlen := hres.len
  intro a w ha hw
  have hne : vs.length ≠ 1 := by rw [hlen]; intro e; simp [e] at h2
  have hrun : (results fn a.tmps).run P w = .ok (.tuple vs.toArray) w := by
    unfold results
    have e : fn.results = rs.toArray := by rw [← hr]
    have h1 := fun f a1 a2 => hres.run ha hw (f := f) a1 a2
    rw [e, List.mapM_toArray]
    simp only [Sem.run_bind, Sem.run_map]
    rw [h1 _ (fun t => rfl) (fun p t => rfl)]
    simp [hne]
  rcases hx with rfl | rfl
  · exact ⟨ha.defers, _, hrun, h w hw⟩
  · exact ⟨ha.defers, _, hrun, h w hw⟩
end

section
variable {P : Program} {n : Nat} {lo : SMut} {s : World} {E : SEnv} {L : SHeap} {d : Option Tmp} {ty : TypeId} {pos : String} {after : Array Edge} {g : Option (Nat × Bool)}
variable {v : Value} {k m : Nat} {cells : Nat → List Value}
/-- a whole row -/
theorem ov_ldRZ {x : Operand} {t : TypeId} {td : TypeDesc} {z : Value} {i by_ : Nat} [hu : SUnd P t td] [hi : SInf P t z k by_]
    (h : ∀ w, SSt lo s L w → RRow w v k m cells) (hx : sval E x = some (.pointer (some ⟨(baseOf v).1, (baseOf v).2 + i * k, none⟩))) (hr : sisRow td = true) (hi' : i < m) (hl : (cells i).length = k) :
    SOpV P n lo s E L ⟨d, .load t x, ty, pos, after, g⟩ (.agg (cells i).toArray) :=
  ov_loadS_at hx hr hl fun w hw j u hj => (h w hw).cell i hi' j u hj
/-- one cell of a block known as a list -/
theorem ov_loadL {x : Operand} {t : TypeId} {b o : Nat} {l : List Value} {T : TypeId} {v : Value} {td : TypeDesc} [hu : SUnd P t td]
    (hx : sval E x = some (.pointer (some ⟨b, o, none⟩))) (hr : sisRow td = false) (hb : (b, srow l T) ∈ L.flatten) (hv : l[o]? = some v) :
    SOpV P n lo s E L ⟨d, .load t x, ty, pos, after, g⟩ v :=
  ov_load hx hr hb (by rw [snth_eq]; exact hv)
end

/-! ### more on pieces and rows -/
def upd {α : Type} (f : Nat → α) (j : Nat) (x : α) : Nat → α := fun i => if i = j then x else f i
theorem upd_at {α : Type} (f : Nat → α) (j : Nat) (x : α) : upd f j x j = x := by simp [upd]
theorem upd_old {α : Type} (f : Nat → α) {i j : Nat} (x : α) (h : i ≠ j) : upd f j x i = f i := by simp [upd, h]
theorem ecat_upd (Hs : Nat → SPiece) (j : Nat) (F : SPiece) : ecat (upd Hs j F) (j + 1) = ecat Hs j ++ F := by
  rw [ecat_succ, upd_at, ecat_congr (fun i hi => upd_old Hs F (by omega))]
theorem SSt.lone {lo : SMut} {s w : World} {H : SPiece} (h : SSt lo s [H] w) : SSt lo s [H, []] w := h.perm (by simp)
theorem SSt.regroup {lo : SMut} {s w : World} {F B D : SPiece} (h : SSt lo s [F, B, D] w) : SSt lo s [B, D ++ F] w := h.perm (by
  simp only [List.flatten_cons, List.flatten_nil, List.append_nil]
  refine (List.perm_append_comm (l₁ := F) (l₂ := B ++ D)).trans ?_
  rw [List.append_assoc])
theorem list_eq_of_getD {α : Type} {l m : List α} (d : α) (hl : l.length = m.length) (h : ∀ i, i < l.length → l.getD i d = m.getD i d) : l = m := by
  apply List.ext_getElem?
  intro i
  by_cases hi : i < l.length
  · have := h i hi
    simp only [List.getD_eq_getElem?_getD, List.getElem?_eq_getElem hi, List.getElem?_eq_getElem (show i < m.length by omega), Option.getD_some] at this
    rw [List.getElem?_eq_getElem hi, List.getElem?_eq_getElem (show i < m.length by omega), this]
  · rw [List.getElem?_eq_none (by omega), List.getElem?_eq_none (by omega)]
def eqTo {α : Type} (l m : List α) (d : α) (j : Nat) : Prop := ∀ i, i < j → l.getD i d = m.getD i d
theorem eqTo_zero {α : Type} (l m : List α) (d : α) : eqTo l m d 0 := fun i h => by omega
theorem eqTo_next {α : Type} {l m : List α} {d : α} {j : Nat} (h : eqTo l m d j) (hj : l.getD j d = m.getD j d) : eqTo l m d (j + 1) := fun i hi => by
  by_cases e : i = j
  · subst e; exact hj
  · exact h i (by omega)
section
variable {P : Program} {n : Nat} {lo : SMut} {s : World} {ops : Array Oper} {Q : Exit → Act → World → Prop} {E : SEnv} {L : SHeap} {ty : TypeId} {pos : String} {after : Array Edge} {rest : List Oper}
/-- a store of a struct into a block known as a list -/
theorem s_setRS (i : Nat) {T U : TypeId} {x y : Operand} {b o k by_ : Nat} {z : Value} {vs l : List Value} [hi : SInf P T z k by_]
    (hx : sval E x = some (.pointer (some ⟨b, o, none⟩))) (hy : sval E y = some (.agg vs.toArray)) (hb : getL L i = some [(b, srow l U)]) (hk : vs.length = k) (h1 : oneCells vs = true) (hle : o + k ≤ l.length)
    (k : WPL P n lo s ops Q rest E (setL L i [(b, srow (l.take o ++ vs ++ l.drop (o + k)) U)])) : WPL P n lo s ops Q (⟨none, .store T x y, ty, pos, after, none⟩ :: rest) E L :=
  s_storeG hx hy hb (by simpa [Value.cells] using hk) (by simpa [Value.cells] using oneCells_mem h1) (by simp [Value.cells, hk]) (by simp [Value.cells]; omega) k
end
theorem OElems.mk {α : Type} {e : SElem α} {U : TypeId} {l : List α} {ds : Nat → Value} {Hs : Nat → SPiece} (b : Nat) (h : ∀ i, i < l.length → e.own (ds i) (l.getD i e.dflt) (Hs i)) (hm : l.length ≤ maxLen) :
    OElems e U (.slice (some ⟨b, 0, none⟩) l.length l.length) l ([(b, srow (erows e l ds l.length) U)] ++ ecat Hs l.length) := by
  refine ⟨ds, _, Hs, [], ?_, h, by rw [List.append_nil]⟩
  have := OVec.blk (k := e.k) (T := U) b l.length l.length (erows e l ds l.length) [] (erows_length e l ds _) (by simpa using erows_length e l ds _) (Nat.le_refl _) hm
  simpa using this
theorem SSt.whole {s w : World} {A B : SPiece} (h : SSt [] s [A, B] w) : SFresh s w (A ++ B) := by
  have := h.toFreshL (Hs := [A, B]) (List.Sublist.refl _)
  simpa using this
end Sx

/-
  The engine, tenth part: struct and slice literals, fields of values, closures, slice expressions, maps of ints.
-/
namespace Sx
open Go

class SPl (P : Program) (t : TypeId) (ps : outParam (List (Nat × Nat))) : Prop where
  h : ∃ fs : Array Field, P.underlying t = some (.struct fs) ∧ fs.toList.mapM (fun f => (P.info? f.type).map fun i => (f.offset, i.size)) = some ps

def nthP : List (Nat × Nat) → Nat → Option (Nat × Nat)
  | [], _ => none
  | p :: _, 0 => some p
  | _ :: r, i + 1 => nthP r i
theorem nthP_eq : ∀ (l : List (Nat × Nat)) (i : Nat), nthP l i = l[i]?
  | [], _ => by simp [nthP]
  | p :: r, 0 => by simp [nthP]
  | p :: r, i + 1 => by simpa [nthP] using nthP_eq r i
/-- one part of a literal -/
def sput (cells : List Value) (off size : Nat) (v : Value) : Option (List Value) :=
  match v with
  | .agg ⟨l⟩ => bif Nat.beq l.length size then putM cells off l else none
  | .int k i => bif Nat.beq size 1 then putN cells off (.int k i) else none
  | .bool b => bif Nat.beq size 1 then putN cells off (.bool b) else none
  | .slice a n c => bif Nat.beq size 1 then putN cells off (.slice a n c) else none
  | .pointer a => bif Nat.beq size 1 then putN cells off (.pointer a) else none
  | _ => none
def sfill (ps : List (Nat × Nat)) : List Value → List (Nat × Value) → Option (List Value)
  | cells, [] => some cells
  | cells, (i, v) :: r => match nthP ps i with
    | none => none
    | some (off, size) => match sput cells off size v with
      | none => none
      | some c => sfill ps c r

theorem fold_put (off : Nat) : ∀ (vs : List Value) (i : Nat) (l : List Value), off + i + vs.length ≤ l.length →
    (vs.zipIdx i).foldl (fun (cs : Array Value) (p : Value × Nat) => cs.setIfInBounds (off + p.2) p.1) l.toArray = (l.take (off + i) ++ vs ++ l.drop (off + i + vs.length)).toArray
  | [], i, l, h => by simp
  | v :: vs, i, l, h => by
    simp only [List.length_cons] at h
    rw [List.zipIdx_cons, List.foldl_cons]
    dsimp only
    have e : (l.toArray.setIfInBounds (off + i) v) = (l.set (off + i) v).toArray := by simp
    rw [e, fold_put off vs (i + 1) _ (by simp; omega)]
    congr 1
    have h1 : (l.set (off + i) v).take (off + (i + 1)) = l.take (off + i) ++ [v] := by
      rw [show off + (i + 1) = (off + i) + 1 by omega, List.take_add_one, List.take_set_of_le (by omega)]
      simp [show off + i < l.length by omega]
    have h2 : (l.set (off + i) v).drop (off + (i + 1) + vs.length) = l.drop (off + i + (vs.length + 1)) := by
      rw [List.drop_set_of_lt (by omega)]; congr 1; omega
    rw [h1, h2]; simp

theorem sput_fill {cells : List Value} {off size : Nat} {v : Value} {c : List Value} (h : sput cells off size v = some c) :
    (v.cells.size = size ∧ off + v.cells.size ≤ cells.length) ∧ v.cells.zipIdx.foldl (fun (cs : Array Value) (p : Value × Nat) => cs.setIfInBounds (off + p.2) p.1) cells.toArray = c.toArray := by
  have one : ∀ u : Value, u.cells = #[u] → (bif Nat.beq size 1 then putN cells off u else none) = some c →
      (u.cells.size = size ∧ off + u.cells.size ≤ cells.length) ∧ u.cells.zipIdx.foldl (fun (cs : Array Value) (p : Value × Nat) => cs.setIfInBounds (off + p.2) p.1) cells.toArray = c.toArray := by
    intro u hu h
    cases hb : Nat.beq size 1 with
    | false => simp [hb] at h
    | true =>
      have hs := Nat.eq_of_beq_eq_true hb
      simp only [hb, cond_true] at h
      obtain ⟨e, hlt⟩ := putN_eq h
      refine ⟨by rw [hu]; simp; omega, ?_⟩
      rw [hu]
      simp [Array.zipIdx, e]
  unfold sput at h
  split at h
  · rename_i l
    cases hb : Nat.beq l.length size with
    | false => simp [hb] at h
    | true =>
      have hs := Nat.eq_of_beq_eq_true hb
      simp only [hb, cond_true] at h
      obtain ⟨e, hle⟩ := putM_eq h
      refine ⟨by simp [Value.cells]; omega, ?_⟩
      have := fold_put off l 0 cells (by simpa using hle)
      simp only [Nat.add_zero] at this
      rw [e, ← this]
      simp [Value.cells]
  · exact one _ rfl h
  · exact one _ rfl h
  · exact one _ rfl h
  · exact one _ rfl h
  · cases h

theorem sfill_fill {ps : List (Nat × Nat)} {place : Nat → Option (Nat × Nat)} : ∀ {parts : List (Nat × Value)} {cells r : List Value}, (∀ i v, (i, v) ∈ parts → nthP ps i ≠ none → place i = nthP ps i) → sfill ps cells parts = some r → Instr.fill place cells.toArray parts = some r.toArray
  | [], cells, r, _, h => by simp [sfill] at h; simp [Instr.fill, h]
  | (i, v) :: rest, cells, r, hp, h => by
    unfold sfill at h
    cases hn : nthP ps i with
    | none => simp [hn] at h
    | some p =>
      obtain ⟨off, size⟩ := p
      simp only [hn] at h
      cases hc : sput cells off size v with
      | none => simp [hc] at h
      | some c =>
        simp only [hc] at h
        obtain ⟨⟨h1, h2⟩, h3⟩ := sput_fill hc
        rw [h1] at h2
        have h4 := hp i v (.head _) (by rw [hn]; simp)
        unfold Instr.fill
        rw [h4, hn]
        have hcond : ¬ ((decide (v.cells.size ≠ size) || decide (off + v.cells.size > cells.toArray.size)) = true) := by
          simp only [List.size_toArray, Bool.or_eq_true, decide_eq_true_eq, not_or]
          exact ⟨fun hne => hne h1, by omega⟩
        dsimp only
        rw [if_neg hcond]
        refine Eq.trans (congrArg (fun c => Instr.fill place c rest) h3) ?_
        exact sfill_fill (fun j u hm => hp j u (.tail _ hm)) h

/-- the operands of a literal's parts -/
def svalsP (E : SEnv) : List (Nat × Operand) → Option (List (Nat × Value))
  | [] => some []
  | (i, x) :: r => match sval E x, svalsP E r with
    | some v, some l => some ((i, v) :: l)
    | _, _ => none
theorem SSat.svalsP {n : Nat} {a : Act} {E : SEnv} (ha : SSat n a E) : ∀ {l : List (Nat × Operand)} {r : List (Nat × Value)}, Sx.svalsP E l = some r → l.map (fun p => (p.1, a.eval p.2)) = r
  | [], r, h => by simp [Sx.svalsP] at h; simp [h]
  | (i, x) :: l, r, h => by
    unfold Sx.svalsP at h
    split at h
    · rename_i v r' hv hr
      simp only [Option.some.injEq] at h
      subst h
      simp [ha.sval hv, ha.svalsP hr]
    · cases h

section
variable {P : Program} {n : Nat} {lo : SMut} {s : World} {E : SEnv} {L : SHeap} {d : Option Tmp} {ty : TypeId} {pos : String} {after : Array Edge} {g : Option (Nat × Bool)}

/-- a struct literal -/
theorem ov_build {t : TypeId} {parts : List (Nat × Operand)} {ps : List (Nat × Nat)} {vs : List (Nat × Value)} {zl r : List Value} {k by_ : Nat} [hp : SPl P t ps] [hi : SInf P t (.agg zl.toArray) k by_]
    (hv : svalsP E parts = some vs) (hr : sfill ps zl vs = some r) : SOpV P n lo s E L ⟨d, .build t parts.toArray, ty, pos, after, g⟩ (.agg r.toArray) :=
  SOpV.of_run fun a ha w hw => by
    obtain ⟨ii, i1, i2, i3, i4⟩ := hi.out
    obtain ⟨fs, hu, hm⟩ := hp.h
    have hb : P.built t vs = some r.toArray := by
      unfold Program.built
      simp only [i1, hu, i2, hm]
      exact sfill_fill (fun i v _ _ => by rw [nthP_eq]; simp) hr
    have := run_build w t vs.toArray r.toArray hb
    have e := ha.svalsP hv
    simp only [execOp]
    have e2 : (parts.toArray.map fun x => (x.1, a.eval x.2)) = vs.toArray := by rw [← e]; simp
    simp [e2, this]

theorem srun_part1 {t : TypeId} {td : TypeDesc} [hu : SUnd P t td] (hr : sisRow td = false) {l : List Value} {o : Nat} {v : Value} (hv : snth l o = some v) (w : World) : (part t l.toArray o).run P w = .ok v w := by
  rw [snth_eq] at hv
  simp [part, srun_isAgg, hr, hv]
/-- a field of a struct value: one cell -/
theorem ov_field1 {x : Operand} {st ft : TypeId} {i off : Nat} {fs : Array Field} {l : List Value} {v : Value} {td : TypeDesc} [hu : SUnd P st (.struct fs)] [ht : SUnd P ft td]
    (hx : sval E x = some (.agg l.toArray)) (hf : (fs[i]?).map (fun f => (f.offset, f.type)) = some (off, ft)) (hr : sisRow td = false) (hv : snth l off = some v) :
    SOpV P n lo s E L ⟨d, .field st x i, ty, pos, after, g⟩ v :=
  SOpV.of_run fun a ha w hw => by
    cases hfi : fs[i]? with
    | none => simp [hfi] at hf
    | some f =>
      simp only [hfi, Option.map_some, Option.some.injEq, Prod.mk.injEq] at hf
      obtain ⟨rfl, rfl⟩ := hf
      simp [execOp, Instr.field, ha.sval hx, srun_und, hfi, asAgg, srun_part1 hr hv]

/-- a function value -/
theorem ov_makeFunc {fn : Fn} {first captured : List Operand} {fv cv : List Value} (h1 : svals E first = some fv) (h2 : svals E captured = some cv) :
    SOpV P n lo s E L ⟨d, .makeFunc fn first.toArray captured.toArray, ty, pos, after, g⟩ (.func fn fv.toArray cv.toArray) :=
  SOpV.of_run fun a ha w hw => by
    simp [execOp, Instr.makeFunc, ← ha.svals h1, ← ha.svals h2]

/-- a call of a function value -/
theorem ov_callV {f : FuncId} {x : Operand} {args : List Operand} {ts : Array TypeId} {vs cap : List Value} {v : Value} [hf : SCallee P f]
    (hx : sval E x = some (.func (.func f) #[] cap.toArray)) (ha : svals E args = some vs) (hc : ∀ w, SSt lo s L w → SYields P f (vs ++ cap).toArray v w) :
    SOpV P n lo s E L ⟨d, .call { callee := .value x, args := args.toArray, argTypes := ts }, ty, pos, after, g⟩ v := by
  intro a hs w hw
  unfold Oper.quietAt
  have h1 : (execOp a.eval ⟨d, .call { callee := .value x, args := args.toArray, argTypes := ts }, ty, pos, after, g⟩).run P w = .ok (.enter f (vs ++ cap).toArray) w := by
    simp [execOp, resolve, hs.sval hx, Deferred.ofValue, invoke, srun_callFunc hf, ← hs.svals ha]
  rw [h1]
  exact ⟨rfl, (hc w hw).run.mono fun e w' ⟨he, hb⟩ => ⟨he, hw.grow hb⟩⟩

theorem kCallV {t : Tmp} {as : Array Operand} {ts : Array TypeId} {v : Value} (h : SOpV P n lo s E L ⟨d, .call { callee := .value (.tmp t), args := as, argTypes := ts }, ty, pos, after, g⟩ v) : SOpV P n lo s E L ⟨d, .call { callee := .value (.tmp t), args := as, argTypes := ts }, ty, pos, after, g⟩ v := h
/-- s[lo:] of rows that are read -/
def slLow (v : Value) (k lo : Nat) : Value := match v with
  | .slice a n c => .slice (if c = lo then a else a.map (·.add (lo * k))) (n - lo) (c - lo)
  | u => u
theorem slLow_row {w : World} {v : Value} {k m : Nat} {cells : Nat → List Value} (h : RRow w v k m cells) {q : Nat} (hq : q ≤ m) (hk : 0 < k) : RRow w (slLow v k q) k (m - q) (fun i => cells (i + q)) := by
  obtain ⟨ad, c, rfl, h2⟩ := h.form
  have hr : m ≤ c := h.room
  have hl := h.len
  by_cases h0 : m - q = 0
  · exact ⟨⟨_, _, rfl, fun h => by omega⟩, by omega, fun i hi => by omega, fun i hi => by omega, show m - q ≤ c - q by omega⟩
  · obtain ⟨b, o, rfl⟩ := h2 (by omega)
    have hc : ¬ c = q := by omega
    refine ⟨⟨_, _, rfl, fun _ => ⟨b, o + q * k, by simp only [hc, if_false, Option.map_some, Addr.add_lit]⟩⟩, by omega, fun i hi => h.size _ (by omega), fun i hi j u hu => ?_, show m - q ≤ c - q by omega⟩
    have := h.cell (i + q) (by omega) j u hu
    simp only [slLow, hc, if_false, Option.map_some, baseOf, Addr.add_lit] at this ⊢
    rw [show o + q * k + i * k + j = o + (i + q) * k + j by rw [Nat.add_mul]; omega]
    exact this
theorem ov_sliceLow {x y : Operand} {t e : TypeId} {z v : Value} {k by_ m : Nat} {i : Int} {ik : IntKind} {cells : Nat → List Value} [hu : SUnd P t (.slice e)] [hi : SInf P e z k by_]
    (h : ∀ w, SSt lo s L w → RRow w v k m cells) (hx : sval E x = some v) (hy : sval E y = some (.int ik i)) (hb : 0 ≤ i ∧ i ≤ m) :
    SOpV P n lo s E L ⟨d, .slice t x (some y) none none, ty, pos, after, g⟩ (slLow v k i.toNat) :=
  SOpV.of_run fun a ha w hw => by
    obtain ⟨ad, c, rfl, h2⟩ := (h w hw).form
    have h1 : 0 ≤ i ∧ i ≤ (m : Int) := hb
    simp [execOp, Instr.sliceAt, Instr.slice, Instr.sliceBounds, Instr.sliceBound, asIntOf, ha.sval hx, ha.sval hy, srun_und, h1, srun_sizeOf, slLow]
end

section
variable {P : Program} {n : Nat} {lo : SMut} {s : World} {ops : Array Oper} {Q : Exit → Act → World → Prop} {E : SEnv} {L : SHeap} {d : Nat} {ty : TypeId} {pos : String} {after : Array Edge} {rest : List Oper}
/-- the places of a slice literal -/
def spls (size : Nat) : Nat → Nat → List (Nat × Nat)
  | _, 0 => []
  | o, n + 1 => (o, size) :: spls size (o + size) n
theorem spls_nth (size : Nat) : ∀ (n o i : Nat), i < n → nthP (spls size o n) i = some (o + i * size, size)
  | 0, o, i, h => by omega
  | n + 1, o, 0, h => by simp [spls, nthP]
  | n + 1, o, i + 1, h => by
    rw [spls, nthP, spls_nth size n (o + size) i (by omega), Nat.succ_mul]
    congr 2; omega
theorem spls_out (size : Nat) : ∀ (n o i : Nat), n ≤ i → nthP (spls size o n) i = none
  | 0, o, i, h => by cases i <;> simp [spls, nthP]
  | n + 1, o, 0, h => by omega
  | n + 1, o, i + 1, h => by rw [spls, nthP]; exact spls_out size n (o + size) i (by omega)
def scells : Value → List Value
  | .agg ⟨l⟩ => l
  | v => [v]
theorem scells_eq (v : Value) : v.cells = (scells v).toArray := by
  cases v <;> first | rfl | (rename_i c; cases c; rfl)
def srep (z : List Value) : Nat → List Value
  | 0 => []
  | n + 1 => z ++ srep z n
theorem srep_eq (z : List Value) : ∀ n, srep z n = (List.replicate n z).flatten
  | 0 => rfl
  | n + 1 => by rw [srep, srep_eq z n, List.replicate_succ, List.flatten_cons]
/-- a slice literal -/
theorem s_buildSlice {t e : TypeId} {len : Nat} {parts : List (Nat × Operand)} {vs : List (Nat × Value)} {z : Value} {r : List Value} {kk by_ : Nat} [hu : SUnd P t (.slice e)] [hi : SInf P e z kk by_]
    (hv : svalsP E parts = some vs) (hz : (scells z).length = kk) (hr : sfill (spls kk 0 len) (srep (scells z) len) vs = some r) (hpos : (decide (0 < len * kk) && decide (len * kk ≤ 16777216)) = true) (hd : Nat.blt d n = true)
    (k : ∀ b, s.heap.size ≤ b → WPL P n lo s ops Q rest ((d, .slice (some ⟨b, 0, none⟩) len len) :: E) ([(b, srow r e)] :: L)) :
    WPL P n lo s ops Q (⟨some d, .buildSlice t len parts.toArray, ty, pos, after, none⟩ :: rest) E L := by
  simp only [Bool.and_eq_true, decide_eq_true_eq] at hpos
  refine s_eff (E' := fun _ _ => []) (fun w u w' => u = .slice (some ⟨w.heap.size, 0, none⟩) len len ∧ w' = w.alloc (srow r e)) (fun a w ha hw => ⟨_, _, ?_, rfl, rfl⟩) hd ?_
  · obtain ⟨i, i1, i2, i3, i4⟩ := hi.out
    have e1 : (parts.toArray.map fun (x : Nat × Operand) => (x.1, a.eval x.2)) = vs.toArray := by rw [← ha.svalsP hv]; simp
    have e2 : ((Array.range (len * kk)).map (z.cells[· % z.cells.size]!)) = (srep (scells z) len).toArray := by
      rw [srep_eq, scells_eq]
      have hk0 : 0 < kk := Nat.pos_of_ne_zero (fun h0 => by simp [h0] at hpos)
      have hflat : ∀ m j, ((List.replicate m (scells z)).flatten)[j]? = if j < m * kk then some ((scells z)[j % kk]?.getD default) else none := by
        intro m
        induction m with
        | zero => intro j; simp
        | succ m ih =>
          intro j
          rw [List.replicate_succ, List.flatten_cons]
          by_cases hj : j < kk
          · rw [List.getElem?_append_left (by omega), if_pos (by rw [Nat.succ_mul]; omega), Nat.mod_eq_of_lt hj, List.getElem?_eq_getElem (by omega)]
            simp
          · rw [List.getElem?_append_right (by omega), ih, hz]
            have : (j - kk) % kk = j % kk := (Nat.mod_eq_sub_mod (by omega)).symm
            rw [this]
            by_cases hjm : j - kk < m * kk
            · rw [if_pos hjm, if_pos (by rw [Nat.succ_mul]; omega)]
            · rw [if_neg hjm, if_neg (by rw [Nat.succ_mul]; omega)]
      apply Array.ext'
      apply List.ext_getElem?
      intro j
      rw [List.toList_toArray, hflat]
      by_cases hj : j < len * kk
      · simp [hj, hz]
      · simp [hj]
    have hsm : ¬ len * i.size > 2 ^ 24 := by rw [i3]; omega
    have hps : ¬ len * i.size = 0 := by rw [i3]; omega
    have hf : Instr.fill (fun q => some (q * i.size, i.size)) ((Array.range (len * i.size)).map (z.cells[· % z.cells.size]!)) vs = some r.toArray := by
      rw [i3, e2]
      refine sfill_fill (fun q u hm hne => ?_) hr
      by_cases hq : q < len
      · rw [spls_nth kk len 0 q hq]; simp
      · exact absurd (spls_out kk len 0 q (by omega)) hne
    simp only [execOp]
    rw [e1]
    simp [Instr.buildSlice, srun_und, Go.sizeOf, typeInfo, zeroValue, i1, i2, hsm, hps, hf, newRow]
    rfl
  · rintro w u w' hw ⟨rfl, rfl⟩ a ha
    exact k w.heap.size hw.hi a _ ha (hw.alloc _)
end

/-! ### maps from ints to bools, used as sets -/
def mentry (p : Int × Nat) : MapEntry := { key := .int .i64 p.1, val := .bool true, born := p.2 }
/-- the map in which these keys are true -/
def mobj (ks : List Int) : Obj := .map ((ks.zipIdx 0).map mentry).toArray ks.length
theorem findNow_keys (k : Int) : ∀ (ks : List Int) (s i : Nat), (k ∉ ks → Instr.findNow (.int .i64) (.int .i64 k) ((ks.zipIdx s).map mentry) i = some none) ∧
    (k ∈ ks → ∃ j, Instr.findNow (.int .i64) (.int .i64 k) ((ks.zipIdx s).map mentry) i = some (some (j, .bool true)))
  | [], s, i => ⟨fun _ => rfl, fun h => by cases h⟩
  | x :: ks, s, i => by
    have ih := findNow_keys k ks (s + 1) (i + 1)
    rw [List.zipIdx_cons, List.map_cons]
    by_cases hx : k = x
    · subst hx
      refine ⟨fun h => absurd (List.mem_cons_self ..) h, fun _ => ⟨i, ?_⟩⟩
      simp [Instr.findNow, mentry, Instr.sameNow]
    · have hs : Instr.sameNow (.int .i64) (.int .i64 k) (.int .i64 x) = some false := by simp [Instr.sameNow, hx]
      refine ⟨fun h => ?_, fun h => ?_⟩
      · have := ih.1 (fun hm => h (List.mem_cons_of_mem _ hm))
        simp only [Instr.findNow, mentry, hs]
        exact this
      · rcases List.mem_cons.1 h with h | h
        · exact absurd h hx
        · obtain ⟨j, hj⟩ := ih.2 h
          exact ⟨j, by simp only [Instr.findNow, mentry, hs]; exact hj⟩
theorem srun_checkKey {P : Program} {t : TypeId} [hu : SUnd P t (.int .i64)] (e : Bool) (k : Int) (w : World) : (Instr.checkKey e 10000 t (.int .i64 k)).run P w = .ok () w := by
  rw [show (10000 : Nat) = 9999 + 1 from rfl]
  unfold Instr.checkKey
  simp [srun_und]
section
variable {P : Program} {n : Nat} {lo : SMut} {s : World} {E : SEnv} {L : SHeap} {ty : TypeId} {pos : String} {after : Array Edge} {g : Option (Nat × Bool)}
theorem ov_lookupB {dd : Option Tmp} {x y : Operand} {t kt et : TypeId} {b i : Nat} {ks : List Int} {k : Int} {kk by_ : Nat} [hu : SUnd P t (.map kt et)] [hk : SUnd P kt (.int .i64)] [he : SInf P et (.bool false) kk by_]
    (hx : sval E x = some (.map (some b))) (hy : sval E y = some (.int .i64 k)) (hb : getL L i = some [(b, mobj ks)]) :
    SOpV P n lo s E L ⟨dd, .lookup t x y false, ty, pos, after, g⟩ (.bool (decide (k ∈ ks))) :=
  SOpV.of_run fun a ha w hw => by
    have hc := (hw.blocks b _ (getL_flat hb (List.mem_singleton.2 rfl))).2
    have hg : (getObj b).run P w = .ok (mobj ks) w := by unfold mobj at hc ⊢; exact MapKept.run_getObj_map hc
    have hf := findNow_keys k ks 0 0
    by_cases hm : k ∈ ks
    · obtain ⟨j, hj⟩ := hf.2 hm
      have h2 : (Instr.findKey kt (.int .i64 k) ((ks.zipIdx 0).map mentry)).run P w = .ok (some (j, .bool true)) w := MapKept.run_findKey hk.h hj
      simp [execOp, Instr.lookup, ha.sval hx, ha.sval hy, srun_und, hg, mobj, srun_checkKey, h2, hm]
    · have h2 : (Instr.findKey kt (.int .i64 k) ((ks.zipIdx 0).map mentry)).run P w = .ok none w := MapKept.run_findKey hk.h (hf.1 hm)
      simp [execOp, Instr.lookup, ha.sval hx, ha.sval hy, srun_und, hg, mobj, srun_checkKey, h2, hm, srun_zeroValue]
end
section
variable {P : Program} {n : Nat} {lo : SMut} {s : World} {ops : Array Oper} {Q : Exit → Act → World → Prop} {E : SEnv} {L : SHeap} {d : Nat} {ty : TypeId} {pos : String} {after : Array Edge} {rest : List Oper}
theorem s_makeMap {t : TypeId} (hd : Nat.blt d n = true) (k : ∀ b, s.heap.size ≤ b → WPL P n lo s ops Q rest ((d, .map (some b)) :: E) ([(b, mobj [])] :: L)) :
    WPL P n lo s ops Q (⟨some d, .makeMap t none, ty, pos, after, none⟩ :: rest) E L := by
  refine s_eff (E' := fun _ _ => []) (fun w u w' => u = .map (some w.heap.size) ∧ w' = w.alloc (mobj [])) (fun a w ha hw => ⟨_, _, ?_, rfl, rfl⟩) hd ?_
  · simp [execOp, Instr.makeMap, newObj, mobj]
    rfl
  · rintro w u w' hw ⟨rfl, rfl⟩ a ha
    exact k w.heap.size hw.hi a _ ha (hw.alloc _)
theorem s_mapUpdateB (i : Nat) {t kt et : TypeId} {x y z : Operand} {b : Nat} {ks : List Int} {k : Int} [hu : SUnd P t (.map kt et)] [hk : SUnd P kt (.int .i64)]
    (hx : sval E x = some (.map (some b))) (hy : sval E y = some (.int .i64 k)) (hz : sval E z = some (.bool true)) (hb : getL L i = some [(b, mobj ks)]) (hm : k ∉ ks)
    (h : WPL P n lo s ops Q rest E (setL L i [(b, mobj (ks ++ [k]))])) : WPL P n lo s ops Q (⟨none, .mapUpdate t x y z, ty, pos, after, none⟩ :: rest) E L := by
  intro a w ha hw
  refine wpList_plain rfl fun K hK => ?_
  have hc := (hw.blocks b _ (getL_flat hb (List.mem_singleton.2 rfl))).2
  have hg : (getObj b).run P w = .ok (mobj ks) w := by unfold mobj at hc ⊢; exact MapKept.run_getObj_map hc
  have h2 : (Instr.findKey kt (.int .i64 k) ((ks.zipIdx 0).map mentry)).run P w = .ok none w := MapKept.run_findKey hk.h ((findNow_keys k ks 0 0).1 hm)
  have ho : (.map (((ks.zipIdx 0).map mentry).toArray.push { key := .int .i64 k, val := .bool true, born := ks.length }) (ks.length + 1) : Obj) = mobj (ks ++ [k]) := by
    unfold mobj
    rw [List.zipIdx_append, List.map_append, List.length_append]
    simp [mentry]
  have hs := MapKept.run_setObj_map (P := P) (o := mobj (ks ++ [k])) (by unfold mobj at hc; exact hc)
  have hr : (execOp a.eval ⟨none, .mapUpdate t x y z, ty, pos, after, none⟩).run P w = .ok .skip { w with heap := w.heap.setIfInBounds b (mobj (ks ++ [k])) } := by
    rw [← ho] at hs ⊢
    simp only [List.push_toArray] at hs ⊢
    simp [execOp, Instr.mapUpdate, ha.sval hx, ha.sval hy, ha.sval hz, srun_und, hg, mobj, srun_checkKey, h2, hs]
  unfold Oper.wp
  rw [hr]
  have hlt : b < w.heap.size := (Array.getElem?_eq_some_iff.1 hc).1
  refine hK _ _ (h _ _ ha (hw.setAt hb rfl rfl rfl (by simp) ?_ (by simp) ?_ ?_))
  · intro c o hm
    rw [List.mem_singleton] at hm
    cases hm
    simp [hlt]
  · intro c o hm
    rw [List.mem_singleton] at hm
    cases hm
    exact .inl ⟨_, List.mem_singleton.2 rfl⟩
  · intro q _ hq
    have hne : q ≠ b := fun e => hq _ (by subst e; exact List.mem_singleton.2 rfl)
    simp [Ne.symm hne]
end
end Sx

/-
  The engine, eleventh part: slices of structs that are read (whatever their inner slices are); append to own ints; captured variables.
-/
namespace Sx
open Go

/-- v reads as these structs -/
def RS {α : Type} (e : SElem α) (w : World) (v : Value) (l : List α) : Prop := ∃ ds, RElems e w v l ds
theorem RS.keep {α : Type} {e : SElem α} {w w' : World} {v : Value} {l : List α} (h : RS e w v l) (hw : ∀ p u, w.cell? p = some u → w'.cell? p = some u) : RS e w' v l := by
  obtain ⟨ds, h⟩ := h; exact ⟨ds, h.keep hw⟩
theorem RS.form {α : Type} {e : SElem α} {w : World} {v : Value} {l : List α} (h : RS e w v l) : ∃ a c, v = .slice a l.length c := by
  obtain ⟨ds, h⟩ := h; exact h.form
theorem RS.len {α : Type} {e : SElem α} {w : World} {v : Value} {l : List α} (h : RS e w v l) : l.length ≤ 9223372036854775807 := by
  obtain ⟨ds, h⟩ := h; exact h.row.len
theorem OElems.rs {α : Type} {e : SElem α} {U : TypeId} {v : Value} {l : List α} {H : SPiece} (h : OElems e U v l H) {w : World} (hw : Holds w H) : RS e w v l := h.reads hw

theorem below_cells {w w' : World} (hb : RowKit.Below w.heap.size w w') : ∀ a u, w.cell? a = some u → w'.cell? a = some u := fun a u hu => by
  rw [hb.cell (World.block_lt_of_cell? w a hu)]; exact hu
theorem SSt.captured {lo : SMut} {s w : World} {L : SHeap} (h : SSt lo s L w) {i b : Nat} {l : List Value} {T : TypeId} (hi : getL L i = some [(b, Sx.srow l T)]) : ∀ j u, l[j]? = some u → w.cell? ⟨b, j, none⟩ = some u := fun j u hu =>
  h.cell (getL_flat hi (List.mem_singleton.2 rfl)) (by rw [snth_eq]; exact hu)

section
variable {P : Program} {n : Nat} {lo : SMut} {s : World} {ops : Array Oper} {Q : Exit → Act → World → Prop} {E : SEnv} {L : SHeap} {d : Nat} {ty : TypeId} {pos : String} {after : Array Edge} {rest : List Oper}

theorem oneCells_ivals : ∀ (l : List Int), oneCells (ivals l) = true
  | [] => rfl
  | x :: l => by
    have := oneCells_ivals l
    show (true && oneCells (ivals l)) = true
    simpa using this
theorem ivals_append (k l : List Int) : ivals (k ++ l) = ivals k ++ ivals l := by simp [ivals]
/-- append of a literal to an own slice of ints: piece i, the literal's block is piece i2 -/
theorem s_appendI (i i2 : Nat) {t e : TypeId} {x y : Operand} {v z : Value} {by_ b2 n2 c2 : Nat} {l ys : List Int} {H : SPiece} {X : TypeId} [hu : SUnd P t (.slice e)] [hinf : SInf P e z 1 by_]
    (hx : sval E x = some v) (hy : sval E y = some (.slice (some ⟨b2, 0, none⟩) n2 c2)) (hv : OInts e v l H) (hL : getL L i = some H) (hL2 : getL L i2 = some [(b2, srow (ivals ys) e)])
    (hn : ys.length = n2) (hz : z.oneCell' = true) (hb : l.length + n2 ≤ 1000000000) (hby : by_ ≤ 64) (hd : Nat.blt d n = true)
    (k : ∀ v' H', OInts e v' (l ++ ys) H' → WPL P n lo s ops Q rest ((d, v') :: E) (setL L i H')) :
    WPL P n lo s ops Q (⟨some d, .call { callee := .builtin .append, args := #[x, y], argTypes := #[t, t] }, X, pos, after, none⟩ :: rest) E L := by
  have hc : z.cells.size = 1 := by cases z <;> first | rfl | simp [Value.oneCell'] at hz
  have hmul : (l.length + n2) * by_ ≤ 1000000000 * 64 := Nat.mul_le_mul hb hby
  refine s_append i (ys := ivals ys) (m := n2) hx hy hv hL hc (by omega) (by simp [ivals, hn]) (oneCells_ivals ys) (fun w hw => ⟨_, _, rfl, fun j q hj => ?_⟩) (by omega) (by omega) hd (fun v' H' h => k v' H' ?_)
  · rw [Addr.add_lit, Nat.zero_add]; exact hw.captured hL2 j q hj
  · have := h
    unfold OInts
    rw [ivals_append, List.length_append, hn]
    exact this
end
/-- a new slice made with room, nothing in it yet -/
theorem OInts.made (e : TypeId) (b c : Nat) (z : Value) (hc : c ≤ maxLen) : OInts e (.slice (some ⟨b, 0, none⟩) 0 c) [] [(b, srow (List.replicate c z) e)] := by
  have := OVec.blk (k := 1) (T := e) b 0 c [] (List.replicate c z) (by simp) (by simp) (Nat.zero_le _) hc
  simpa [OInts, ivals] using this
theorem OInts.nil (e : TypeId) : OInts e (.slice none 0 0) [] [] := OVec.nil
/-- a new slice all of whose places are there -/
theorem OInts.whole (e : TypeId) (b : Nat) (l : List Int) (hl : l.length ≤ maxLen) : OInts e (.slice (some ⟨b, 0, none⟩) l.length l.length) l [(b, srow (ivals l) e)] := by
  have := OVec.blk (k := 1) (T := e) b l.length l.length (ivals l) [] (by simp [ivals]) (by simp [ivals]) (Nat.le_refl _) hl
  simpa [OInts] using this

/-! ### finding a piece, a block -/
section
variable {lo : SMut} {s w : World} {H K : SPiece} {L : SHeap}
theorem holds_hd (hw : SSt lo s (H :: L) w) : Holds w H := hw.holds (i := 0) rfl
theorem holds_tl (h : SSt lo s L w → Holds w H) (hw : SSt lo s (K :: L) w) : Holds w H := h (hw.sub (List.Sublist.cons _ (List.Sublist.refl _)))
end
def FindC (L : SHeap) (b o : Nat) (v : Value) : Prop := ∃ l T, (b, srow l T) ∈ L.flatten ∧ l[o]? = some v
theorem fc_hd {L : SHeap} {b o : Nat} {l : List Value} {T : TypeId} {v : Value} (h : snth l o = some v) : FindC ([(b, srow l T)] :: L) b o v := ⟨l, T, by simp, by rw [← snth_eq]; exact h⟩
theorem fc_tl {L : SHeap} {K : SPiece} {b o : Nat} {v : Value} (h : FindC L b o v) : FindC (K :: L) b o v := by
  obtain ⟨l, T, h1, h2⟩ := h
  exact ⟨l, T, by rw [List.flatten_cons]; exact List.mem_append_right _ h1, h2⟩
def FindS (L : SHeap) (b o k : Nat) (vs : List Value) : Prop := ∃ l T, (b, srow l T) ∈ L.flatten ∧ scut l o k = some vs
theorem fs_hd {L : SHeap} {b o k : Nat} {l vs : List Value} {T : TypeId} (h : scut l o k = some vs) : FindS ([(b, srow l T)] :: L) b o k vs := ⟨l, T, by simp, h⟩
theorem fs_tl {L : SHeap} {K : SPiece} {b o k : Nat} {vs : List Value} (h : FindS L b o k vs) : FindS (K :: L) b o k vs := by
  obtain ⟨l, T, h1, h2⟩ := h
  exact ⟨l, T, by rw [List.flatten_cons]; exact List.mem_append_right _ h1, h2⟩
theorem gp_hd {H : SPiece} {L : SHeap} : getL (H :: L) 0 = some H := rfl
theorem gp_tl {H K : SPiece} {L : SHeap} {i : Nat} (h : getL L i = some H) : getL (K :: L) (i + 1) = some H := h
section
variable {P : Program} {n : Nat} {lo : SMut} {s : World} {ops : Array Oper} {Q : Exit → Act → World → Prop} {E : SEnv} {L : SHeap} {d : Option Tmp} {ty : TypeId} {pos : String} {after : Array Edge} {g : Option (Nat × Bool)} {v : Value}
theorem ov_loadF {x : Operand} {t : TypeId} {b o : Nat} {td : TypeDesc} [hu : SUnd P t td] (hx : sval E x = some (.pointer (some ⟨b, o, none⟩))) (hr : sisRow td = false) (h : FindC L b o v) :
    SOpV P n lo s E L ⟨d, .load t x, ty, pos, after, g⟩ v := by
  obtain ⟨l, T, h1, h2⟩ := h
  exact ov_load hx hr h1 (by rw [snth_eq]; exact h2)
theorem ov_loadSF {x : Operand} {t : TypeId} {b o : Nat} {vs : List Value} {td : TypeDesc} {z : Value} {k by_ : Nat} [hu : SUnd P t td] [hi : SInf P t z k by_] (hx : sval E x = some (.pointer (some ⟨b, o, none⟩))) (hr : sisRow td = true) (h : FindS L b o k vs) :
    SOpV P n lo s E L ⟨d, .load t x, ty, pos, after, g⟩ (.agg vs.toArray) := by
  obtain ⟨l, T, h1, h2⟩ := h
  exact ov_loadS hx hr h1 h2
theorem kOBin {o : BinOp} {xt yt : TypeId} {x y : Operand} (h : SOpV P n lo s E L ⟨d, .binOp o xt x y yt, ty, pos, after, g⟩ v) : SOpV P n lo s E L ⟨d, .binOp o xt x y yt, ty, pos, after, g⟩ v := h
theorem kOCall {c : Call} (h : SOpV P n lo s E L ⟨d, .call c, ty, pos, after, g⟩ v) : SOpV P n lo s E L ⟨d, .call c, ty, pos, after, g⟩ v := h
theorem kOLoad {t : TypeId} {x : Operand} (h : SOpV P n lo s E L ⟨d, .load t x, ty, pos, after, g⟩ v) : SOpV P n lo s E L ⟨d, .load t x, ty, pos, after, g⟩ v := h
theorem kOIdx {t : TypeId} {x y : Operand} (h : SOpV P n lo s E L ⟨d, .indexAddr t x y, ty, pos, after, g⟩ v) : SOpV P n lo s E L ⟨d, .indexAddr t x y, ty, pos, after, g⟩ v := h
theorem kCallF {f : FuncId} {as : Array Operand} {ts : Array TypeId} (h : SOpV P n lo s E L ⟨d, .call { callee := .value (.func f), args := as, argTypes := ts }, ty, pos, after, g⟩ v) : SOpV P n lo s E L ⟨d, .call { callee := .value (.func f), args := as, argTypes := ts }, ty, pos, after, g⟩ v := h
theorem kCallB {f : Builtin} {as : Array Operand} {ts : Array TypeId} (h : SOpV P n lo s E L ⟨d, .call { callee := .builtin f, args := as, argTypes := ts }, ty, pos, after, g⟩ v) : SOpV P n lo s E L ⟨d, .call { callee := .builtin f, args := as, argTypes := ts }, ty, pos, after, g⟩ v := h
theorem kLookup {t : TypeId} {x y : Operand} {c : Bool} (h : SOpV P n lo s E L ⟨d, .lookup t x y c, ty, pos, after, g⟩ v) : SOpV P n lo s E L ⟨d, .lookup t x y c, ty, pos, after, g⟩ v := h
theorem kSlice {t : TypeId} {x : Operand} {a b c : Option Operand} (h : SOpV P n lo s E L ⟨d, .slice t x a b c, ty, pos, after, g⟩ v) : SOpV P n lo s E L ⟨d, .slice t x a b c, ty, pos, after, g⟩ v := h
theorem kO {o : Oper} (h : SOpV P n lo s E L o v) : SOpV P n lo s E L o v := h
end

/-! ### nil slices, empty literals -/
section
variable {P : Program} {n : Nat} {lo : SMut} {s : World} {E : SEnv} {L : SHeap} {d : Option Tmp} {ty : TypeId} {pos : String} {after : Array Edge} {g : Option (Nat × Bool)}
theorem srun_equalIn_nil {P : Program} {t e : TypeId} [hu : SUnd P t (.slice e)] (q : Nat) (a : Option Addr) (m c : Nat) (w : World) : (Op.equalIn (q + 1) t (.slice a m c) (.slice none 0 0)).run P w = .ok a.isNone w := by
  cases a <;> simp [Op.equalIn, srun_und]
theorem ov_eqNil {x y : Operand} {t e yt : TypeId} {a : Option Addr} {m c : Nat} [hu : SUnd P t (.slice e)] (hx : sval E x = some (.slice a m c)) (hy : sval E y = some (.slice none 0 0)) :
    SOpV P n lo s E L ⟨d, .binOp .eql t x y yt, ty, pos, after, g⟩ (.bool a.isNone) :=
  SOpV.of_run fun aa ha w hw => by
    simp [execOp, eqGuard, binOp, ha.sval hx, ha.sval hy, Op.equal, Op.maxDepth, srun_equalIn_nil 9999]
end
section
variable {P : Program} {n : Nat} {lo : SMut} {s : World} {ops : Array Oper} {Q : Exit → Act → World → Prop} {E : SEnv} {L : SHeap} {d : Nat} {ty : TypeId} {pos : String} {after : Array Edge} {rest : List Oper}
theorem s_buildSlice0 {t e : TypeId} {z : Value} {kk by_ : Nat} [hu : SUnd P t (.slice e)] [hi : SInf P e z kk by_] (hd : Nat.blt d n = true)
    (k : ∀ b, s.heap.size ≤ b → WPL P n lo s ops Q rest ((d, .slice (some ⟨b, 0, none⟩) 0 0) :: E) ([(b, srow [] e)] :: L)) :
    WPL P n lo s ops Q (⟨some d, .buildSlice t 0 #[], ty, pos, after, none⟩ :: rest) E L := by
  refine s_eff (E' := fun _ _ => []) (fun w u w' => u = .slice (some ⟨w.heap.size, 0, none⟩) 0 0 ∧ w' = w.alloc (srow [] e)) (fun a w ha hw => ⟨_, _, ?_, rfl, rfl⟩) hd ?_
  · obtain ⟨i, i1, i2, i3, i4⟩ := hi.out
    simp [execOp, Instr.buildSlice, srun_und, Go.sizeOf, typeInfo, i1, Instr.fill, newRow]
    exact congrArg w.alloc (congrArg (fun c => Obj.cells c e (0, 0)) (by simp))
  · rintro w u w' hw ⟨rfl, rfl⟩ a ha
    exact k w.heap.size hw.hi a _ ha (hw.alloc _)
end
theorem OVec.empty (k : Nat) (e : TypeId) (b : Nat) : OVec k e (.slice (some ⟨b, 0, none⟩) 0 0) 0 [] [(b, srow [] e)] := by
  have := OVec.blk (k := k) (T := e) b 0 0 [] [] (by simp) (by simp) (Nat.le_refl _) (Nat.zero_le _)
  simpa using this
theorem OInts.empty (e : TypeId) (b : Nat) : OInts e (.slice (some ⟨b, 0, none⟩) 0 0) [] [(b, srow [] e)] := OVec.empty 1 e b
/-- the cells of a slice that is read, by their places -/
theorem RRow.src {w : World} {A : Addr} {k m c : Nat} {cells : Nat → List Value} (h : RRow w (.slice (some A) m c) k m cells) (hk : 0 < k) : ∀ j q, ((List.range m).flatMap cells)[j]? = some q → w.cell? (A.add j) = some q := by
  intro j q hj
  have hlen : ∀ n, n ≤ m → ((List.range n).flatMap cells).length = n * k := by
    intro n
    induction n with
    | zero => intro _; simp
    | succ n ih =>
      intro hn
      rw [List.range_succ, List.flatMap_append, List.length_append, ih (by omega)]
      simp [h.size n (by omega), Nat.succ_mul]
  have hjm : j < m * k := by rw [← hlen m (Nat.le_refl _)]; exact (List.getElem?_eq_some_iff.1 hj).1
  have hm : 0 < m := Nat.pos_of_ne_zero (fun e => by subst e; simp at hjm)
  obtain ⟨a, c', he, hf⟩ := h.form
  obtain ⟨b, o, rfl⟩ := hf hm
  simp only [Value.slice.injEq, Option.some.injEq] at he
  obtain ⟨rfl, _⟩ := he
  have hdiv : j / k < m := (Nat.div_lt_iff_lt_mul hk).2 hjm
  have hmod : j % k < k := Nat.mod_lt _ hk
  have hq : (cells (j / k))[j % k]? = some q := by
    have hsz := h.size (j / k) hdiv
    have h1 : (cells (j / k))[j % k]? = some (cells (j / k))[j % k] := List.getElem?_eq_getElem (by omega)
    have h2 := getElem?_rows m h.size (j / k) (j % k) _ hdiv h1
    have h3 : j / k * k + j % k = j := by rw [Nat.mul_comm]; exact Nat.div_add_mod j k
    rw [h3, hj] at h2
    rw [h1, ← h2]
  have := h.cell (j / k) hdiv (j % k) q hq
  rw [Addr.add_lit]
  simp only [baseOf] at this
  rw [show o + j / k * k + j % k = o + j by have := Nat.div_add_mod j k; rw [Nat.mul_comm] at this; omega] at this
  exact this
theorem RInts.src {w : World} {A : Addr} {m c : Nat} {l : List Int} (h : RInts w (.slice (some A) m c) l) : ∀ j q, (ivals l)[j]? = some q → w.cell? (A.add j) = some q := by
  have hm : m = l.length := by
    obtain ⟨a, c', he, _⟩ := RRow.form h
    simp only [Value.slice.injEq] at he; exact he.2.1
  subst hm
  rw [flat_ivals]
  exact RRow.src h (by omega)

section
variable {P : Program} {n : Nat} {lo : SMut} {s : World} {ops : Array Oper} {Q : Exit → Act → World → Prop} {E : SEnv} {L : SHeap} {d : Option Tmp} {ty : TypeId} {pos : String} {after : Array Edge} {rest : List Oper} {g : Option (Nat × Bool)}
theorem kWFunc {f : FuncId} {as : Array Operand} {ts : Array TypeId} (h : WPL P n lo s ops Q (⟨d, .call { callee := .value (.func f), args := as, argTypes := ts }, ty, pos, after, g⟩ :: rest) E L) : WPL P n lo s ops Q (⟨d, .call { callee := .value (.func f), args := as, argTypes := ts }, ty, pos, after, g⟩ :: rest) E L := h
theorem kWApp {as : Array Operand} {ts : Array TypeId} (h : WPL P n lo s ops Q (⟨d, .call { callee := .builtin .append, args := as, argTypes := ts }, ty, pos, after, g⟩ :: rest) E L) : WPL P n lo s ops Q (⟨d, .call { callee := .builtin .append, args := as, argTypes := ts }, ty, pos, after, g⟩ :: rest) E L := h
theorem kWMap {t : TypeId} {x y z : Operand} (h : WPL P n lo s ops Q (⟨d, .mapUpdate t x y z, ty, pos, after, g⟩ :: rest) E L) : WPL P n lo s ops Q (⟨d, .mapUpdate t x y z, ty, pos, after, g⟩ :: rest) E L := h
theorem kWMake {t : TypeId} {x y : Operand} (h : WPL P n lo s ops Q (⟨d, .makeSlice t x y, ty, pos, after, g⟩ :: rest) E L) : WPL P n lo s ops Q (⟨d, .makeSlice t x y, ty, pos, after, g⟩ :: rest) E L := h
end

/-! ### leaving with a struct -/
def FindW (L : SHeap) (b k : Nat) (l : List Value) : Prop := (∃ T, (b, srow l T) ∈ L.flatten) ∧ l.length = k
theorem fw_hd {L : SHeap} {b k : Nat} {l : List Value} {T : TypeId} (h : l.length = k) : FindW ([(b, srow l T)] :: L) b k l := ⟨⟨T, by simp⟩, h⟩
theorem fw_tl {L : SHeap} {K : SPiece} {b k : Nat} {l : List Value} (h : FindW L b k l) : FindW (K :: L) b k l := by
  obtain ⟨⟨T, h1⟩, h2⟩ := h
  exact ⟨⟨T, by rw [List.flatten_cons]; exact List.mem_append_right _ h1⟩, h2⟩
section
variable {P : Program} {n : Nat} {lo : SMut} {s : World} {E : SEnv} {L : SHeap} {fn : Func} {R : Ending → World → Prop}
theorem s_leaveSF {t : Tmp} {T : TypeId} {b : Nat} {l : List Value} {td : TypeDesc} {z : Value} {k by_ : Nat} [hu : SUnd P T td] [hi : SInf P T z k by_] (hr : fn.results = #[.cell t T])
    (ht : slook E t = some (.pointer (some ⟨b, 0, none⟩))) (hd : sisRow td = true) (hf : FindW L b k l) (h : ∀ w, SSt lo s L w → R (.returned (.agg l.toArray)) w) : SEnds n lo s (bodyPost P fn R) .ret E L := by
  obtain ⟨⟨U, h1⟩, h2⟩ := hf
  exact s_leaveS hr ht hd h1 h2 h
end

theorem RInts.one {w : World} {v : Value} {l : List Int} (h : RInts w v l) : v.oneCell' = true := by
  obtain ⟨a, c, rfl⟩ := h.form; rfl
theorem OInts.one {T : TypeId} {v : Value} {l : List Int} {H : SPiece} (h : OInts T v l H) : v.oneCell' = true := by
  obtain ⟨a, c, rfl⟩ := h.form; rfl
theorem RS.one {α : Type} {e : SElem α} {w : World} {v : Value} {l : List α} (h : RS e w v l) : v.oneCell' = true := by
  obtain ⟨a, c, rfl⟩ := h.form; rfl
theorem ones_cons {v : Value} {r : List Value} (h : v.oneCell' = true) (hr : oneCells r = true) : oneCells (v :: r) = true := by
  simp [oneCells, h, hr]
theorem ones_img {i j : Int} {d : Value} (h : d.oneCell' = true) : oneCells [.int .i64 i, .int .i64 j, d] = true :=
  ones_cons rfl (ones_cons rfl (ones_cons h rfl))
/-- some of the pieces -/
def selO : List Bool → SHeap → Option SHeap
  | [], _ => some []
  | _ :: _, [] => some []
  | true :: ks, H :: L => match selO ks L with
    | some r => some (H :: r)
    | none => none
  | false :: ks, _ :: L => selO ks L
theorem selO_sub : ∀ (ks : List Bool) (L L0 : SHeap), selO ks L = some L0 → L0.Sublist L
  | [], L, L0, h => by simp [selO] at h; subst h; exact List.nil_sublist _
  | k :: ks, [], L0, h => by simp [selO] at h; subst h; exact List.nil_sublist _
  | true :: ks, H :: L, L0, h => by
    unfold selO at h
    split at h
    · rename_i r hr
      simp only [Option.some.injEq] at h
      subst h
      exact List.Sublist.cons_cons _ (selO_sub ks L r hr)
    · cases h
  | false :: ks, H :: L, L0, h => List.Sublist.cons _ (selO_sub ks L L0 (by simpa [selO] using h))
section
variable {P : Program} {n : Nat} {lo : SMut} {s : World} {Q : Exit → Act → World → Prop}
/-- the same, where a piece turns on the way -/
theorem c_regionSub (order : SPlan) (tail : Option Nat) (ks : List Bool) {id : Nat} {l : List Oper} {E : SEnv} {L L0 : SHeap} [PanicAny Q] (hk : selO ks L = some L0) (hm : P.follows .mixedOrders = true)
    (hp : (Region.noSelect l.toArray && lastOk .any l.toArray tail && planOk .any l.toArray true order (Array.replicate l.toArray.size false) && decide (order.depth ≤ l.toArray.size)) = true)
    (h : WPS P n lo s l.toArray Q L0 tail order E L) : WPC P n lo s (.region id l.toArray true) Q E L := by
  intro a w ha hw
  simp only [Bool.and_eq_true, decide_eq_true_eq] at hp
  obtain ⟨⟨⟨h1, h2⟩, h3⟩, h4⟩ := hp
  refine wp_region_any hm ?_
  exact any_of_anyS _ _ _ _ ((anyS_of_seq h1 h2 order _ _ _).1 h3 (h a _ ha hw.drew (hw.drew.sub (selO_sub ks L L0 hk))) _ h4)
end
section
variable {P : Program} {n : Nat} {lo : SMut} {s : World} {E : SEnv} {L : SHeap} {d : Option Tmp} {ty : TypeId} {pos : String} {after : Array Edge} {g : Option (Nat × Bool)}
/-- append of a nil slice -/
theorem ov_appendNil {x y : Operand} {t e : TypeId} {a : Option Addr} {m c : Nat} {z : Value} {kk by_ : Nat} [hu : SUnd P t (.slice e)] [hi : SInf P e z kk by_] (hx : sval E x = some (.slice a m c)) {cy : Nat} (hy : sval E y = some (.slice none 0 cy)) (hmc : m ≤ c) :
    SOpV P n lo s E L ⟨d, .call { callee := .builtin .append, args := #[x, y], argTypes := #[t, t] }, ty, pos, after, g⟩ (.slice a m c) :=
  SOpV.of_run fun aa ha w hw => by
    cases a <;> simp [execOp, resolve, invoke, builtin, ha.sval hx, ha.sval hy, Builtin.append_, srun_und, srun_sizeOf, Builtin.lenOf, Builtin.firstCells, hmc, storeCells]
end
end Sx

/-
  The engine, twelfth part: stores into own slices of ints; empty pieces; a cursor that is turned.
-/
namespace Sx
open Go

section
variable {P : Program} {n : Nat} {lo : SMut} {s : World} {ops : Array Oper} {Q : Exit → Act → World → Prop} {E : SEnv} {L : SHeap} {d : Nat} {ty : TypeId} {pos : String} {after : Array Edge} {rest : List Oper}
/-- a store into an own slice of ints -/
theorem s_setI (i : Nat) {T U : TypeId} {x y : Operand} {v z : Value} {l : List Int} {H : SPiece} {q : Int} {k by_ : Nat} [hi : SInf P T z 1 by_]
    (hx : sval E x = some (.pointer (some ⟨(baseOf v).1, (baseOf v).2 + k * 1, none⟩))) (hy : sval E y = some (.int .i64 q)) (hv : OInts U v l H) (hL : getL L i = some H) (hk : k < l.length)
    (c : ∀ H', OInts U v (l.set k q) H' → WPL P n lo s ops Q rest E (setL L i H')) : WPL P n lo s ops Q (⟨none, .store T x y, ty, pos, after, none⟩ :: rest) E L := by
  unfold OInts at hv
  generalize hxs : ivals l = xs at hv
  generalize hnn : l.length = nn at hv
  cases hv with
  | nil => omega
  | blk b n' cap xs r h1 h2 h3 h4 =>
    subst hxs
    subst hnn
    simp only [baseOf, Nat.zero_add, Nat.mul_one] at hx
    refine s_setR i hx hy hL rfl (by rw [List.length_append, ivals_length]; omega) ?_
    rw [set_ivals _ _ hk]
    refine c _ ?_
    have := OVec.blk (k := 1) (T := U) b l.length cap (ivals (l.set k q)) r (by rw [ivals_length, List.length_set]; omega) (by rw [List.length_append, ivals_length, List.length_set]; rw [List.length_append, ivals_length] at h2; omega) h3 h4
    rw [OInts, List.length_set]; exact this
end
theorem replicate_ivals (n : Nat) (q : Int) : List.replicate n (Value.int .i64 q) = ivals (List.replicate n q) := by simp [ivals]
/-- a new slice that was made with all its places -/
theorem OInts.full (e : TypeId) (b : Nat) {n : Nat} (q : Int) (hn : n ≤ maxLen) : OInts e (.slice (some ⟨b, 0, none⟩) n n) (List.replicate n q) [(b, srow (List.replicate n (.int .i64 q)) e)] := by
  have := OInts.whole e b (List.replicate n q) (by simpa using hn)
  simpa [ivals] using this
theorem SSt.nil0 {lo : SMut} {s w : World} {L : SHeap} (h : SSt lo s L w) : SSt lo s ([] :: L) w := h.perm (by simp)
theorem SSt.nil1 {lo : SMut} {s w : World} {A : SPiece} {L : SHeap} (h : SSt lo s (A :: L) w) : SSt lo s (A :: [] :: L) w := h.perm (by simp)
theorem SSt.nil2 {lo : SMut} {s w : World} {A B : SPiece} {L : SHeap} (h : SSt lo s (A :: B :: L) w) : SSt lo s (A :: B :: [] :: L) w := h.perm (by simp)
theorem OInts.len {T : TypeId} {v : Value} {l : List Int} {H : SPiece} (h : OInts T v l H) : l.length ≤ 9223372036854775807 := Nat.le_trans (OVec.le h) (by decide)
end Sx

/-
  The engine, last part: what a rule needs is looked for where it is used.
-/
namespace Sx
open Go
theorem gpA {L : SHeap} {i : Nat} {H : SPiece} (h : getL L i = some H := by (repeat' first | exact Sx.gp_hd | apply Sx.gp_tl); done) : getL L i = some H := h
section
variable {lo : SMut} {s w : World} {L : SHeap}
theorem hfA {H : SPiece} (hw : SSt lo s L w) (h : SSt lo s L w → Holds w H := by (repeat' first | exact Sx.holds_hd | refine Sx.holds_tl ?_); done) : Holds w H := h hw
theorem riA {v : Value} {l : List Int} (hw : SSt lo s L w) (h : SSt lo s L w → RInts w v l := by intro hw; first | exact Sx.RInts.keep (by assumption) (hw.cells rfl) | exact Sx.OInts.reads (by assumption) (Sx.hfA hw) | exact Sx.RInts.keepM (by assumption) (by assumption) hw) : RInts w v l := h hw
theorem reA {α : Type} {e : SElem α} {v : Value} {l : List α} (hw : SSt lo s L w) (h : SSt lo s L w → RS e w v l := by intro hw; first | exact Sx.RS.keep (by assumption) (hw.cells rfl) | exact Sx.OElems.rs (by assumption) (Sx.hfA hw)) : RS e w v l := h hw
theorem rrA {v : Value} {k m : Nat} {cells : Nat → List Value} (hw : SSt lo s L w) (h : SSt lo s L w → RRow w v k m cells := by intro hw; first | exact Sx.RRow.keep (by assumption) (hw.cells rfl) | exact (Sx.RElems.keep (by assumption) (hw.cells rfl)).row | exact Sx.OInts.reads (by assumption) (Sx.hfA hw) | exact (Sx.RBytes.keep (by assumption) (hw.cells rfl)).1 | exact Sx.RRow.keepM (by assumption) (by assumption) hw) : RRow w v k m cells := h hw
end
theorem subA {L0 L : SHeap} (h : L0.Sublist L := by (repeat' first | exact List.nil_sublist _ | exact List.Sublist.slnil | refine List.Sublist.cons_cons _ ?_ | refine List.Sublist.cons _ ?_); done) : L0.Sublist L := h
theorem fwA {L : SHeap} {b k : Nat} {l : List Value} (h : FindW L b k l := by (repeat' first | exact Sx.fw_hd rfl | apply Sx.fw_tl); done) : FindW L b k l := h
theorem oiA {v : Value} (h : v.oneCell' = true := by first | exact Sx.OInts.one (by assumption) | exact Sx.RInts.one (by assumption)) : v.oneCell' = true := h
section
variable {P : Program} {n : Nat} {lo : SMut} {s : World} {E : SEnv} {L : SHeap} {o : Oper} {v : Value}
theorem aBin (h : SOpV P n lo s E L o v := by first
  | exact (Sx.ov_add rfl rfl (by omega)) | exact (Sx.ov_sub rfl rfl (by omega)) | exact (Sx.ov_mul rfl rfl (by omega)) | exact (Sx.ov_quo rfl rfl (by omega)) | exact (Sx.ov_rem rfl rfl (by omega))
  | exact (Sx.ov_mask 8 rfl rfl (by decide) (by decide)) | exact (Sx.ov_mask 6 rfl rfl (by decide) (by decide)) | exact (Sx.ov_mask 1 rfl rfl (by decide) (by decide)) | exact (Sx.ov_mask 24 rfl rfl (by decide) (by decide))
  | exact (Sx.ov_shlN 8 256 (by decide) (by decide) rfl rfl (by omega)) | exact (Sx.ov_shlN 6 64 (by decide) (by decide) rfl rfl (by omega)) | exact (Sx.ov_shlN 24 16777216 (by decide) (by decide) rfl rfl (by omega)) | exact (Sx.ov_shlN 16 65536 (by decide) (by decide) rfl rfl (by omega)) | exact (Sx.ov_shlN 12 4096 (by decide) (by decide) rfl rfl (by omega))
  | exact (Sx.ov_shr rfl rfl (by omega)) | exact (Sx.ov_rem' rfl rfl (by omega)) | exact (Sx.ov_quo' rfl rfl (by omega)) | exact (Sx.ov_eqlb rfl rfl) | exact (Sx.ov_neqb rfl rfl) | exact (Sx.ov_eqNil rfl rfl)) : SOpV P n lo s E L o v := h
theorem aBlt (h : SOpV P n lo s E L o v := by first | exact (Sx.ov_len rfl) | exact (Sx.ov_min rfl rfl) | exact (Sx.ov_max rfl rfl)) : SOpV P n lo s E L o v := h
theorem aLenR (h : SOpV P n lo s E L o v := by first | exact (Sx.ov_lenR (fun w hw => Sx.rrA hw) rfl)) : SOpV P n lo s E L o v := h
theorem aLdF (h : SOpV P n lo s E L o v := by first | exact (Sx.ov_loadF rfl rfl (by repeat' first | exact Sx.fc_hd rfl | apply Sx.fc_tl)) | exact (Sx.ov_loadSF rfl rfl (by repeat' first | exact Sx.fs_hd rfl | apply Sx.fs_tl))) : SOpV P n lo s E L o v := h
theorem aLdR (h : SOpV P n lo s E L o v := by first | exact (Sx.ov_ldR0 (fun w hw => Sx.rrA hw) rfl rfl (by omega) rfl) | exact (Sx.ov_ldR (fun w hw => Sx.rrA hw) rfl rfl (by omega) rfl) | exact (Sx.ov_ldRZ (fun w hw => Sx.rrA hw) rfl rfl (by omega) rfl)) : SOpV P n lo s E L o v := h
theorem aIdx (h : SOpV P n lo s E L o v := by first | exact (Sx.ov_idxR (fun w hw => Sx.rrA hw) rfl rfl (by omega)) | exact (Sx.ov_indexAddr rfl rfl (by omega))) : SOpV P n lo s E L o v := h
theorem aRest (h : SOpV P n lo s E L o v := by first | exact (Sx.ov_neg rfl (by omega)) | exact (Sx.ov_conv rfl (by omega))) : SOpV P n lo s E L o v := h
theorem aNew (h : SOpV P n lo s E L o v := by first | exact (Sx.ov_build rfl rfl) | exact (Sx.ov_makeFunc rfl rfl)) : SOpV P n lo s E L o v := h
end
end Sx

/-
  The engine: heaps are written out anew where a region begins, and behind each operation of a region that draws its order.
-/
namespace Sx
open Go
def hrev : SHeap → SHeap → SHeap
  | [], acc => acc
  | p :: r, acc => hrev r (p :: acc)
def hfin : SHeap → SHeap → Option SHeap
  | [], acc => some acc
  | p :: r, acc => hfin r (p :: acc)
/-- the same heap, written as a list -/
def hnrm (L : SHeap) : Option SHeap := hfin (hrev L []) []
theorem hrev_eq : ∀ (l acc : SHeap), hrev l acc = l.reverse ++ acc
  | [], acc => by simp [hrev]
  | p :: r, acc => by rw [hrev, hrev_eq r]; simp
theorem hfin_eq : ∀ (l acc : SHeap), hfin l acc = some (l.reverse ++ acc)
  | [], acc => by simp [hfin]
  | p :: r, acc => by rw [hfin, hfin_eq r]; simp
theorem hnrm_eq {L L' : SHeap} (h : hnrm L = some L') : L = L' := by
  unfold hnrm at h
  rw [hrev_eq, hfin_eq] at h
  simpa using h
section
variable {P : Program} {n : Nat} {lo : SMut} {s : World} {ops : Array Oper} {Q : Exit → Act → World → Prop} {L0 : SHeap} {tail : Option Nat}
theorem c_regionN {id : Nat} {l : List Oper} {E : SEnv} {L L' : SHeap} (hn : hnrm L = some L') (h : WPL P n lo s l.toArray Q l E L') : WPC P n lo s (.region id l.toArray false) Q E L := by
  rw [hnrm_eq hn]; exact c_region h
theorem c_regionQN {id : Nat} {l : List Oper} {E : SEnv} {L L' : SHeap} (hn : hnrm L = some L') (hm : P.follows .mixedOrders = true) (hB : Region.lexB .any l.toArray = true)
    (h : WPQ P n lo s l.toArray Q l E L') : WPC P n lo s (.region id l.toArray true) Q E L := by
  rw [hnrm_eq hn]; exact c_regionQ hm hB h
theorem c_regionSN (order : SPlan) (tail : Option Nat) {id : Nat} {l : List Oper} {E : SEnv} {L L' : SHeap} [PanicAny Q] (hn : hnrm L = some L') (hm : P.follows .mixedOrders = true)
    (hp : (Region.noSelect l.toArray && lastOk .any l.toArray tail && planOk .any l.toArray true order (Array.replicate l.toArray.size false) && decide (order.depth ≤ l.toArray.size)) = true)
    (h : WPS P n lo s l.toArray Q L' tail order E L') : WPC P n lo s (.region id l.toArray true) Q E L := by
  rw [hnrm_eq hn]; exact c_regionS order tail hm hp h
theorem c_regionSubN (order : SPlan) (tail : Option Nat) (ks : List Bool) {id : Nat} {l : List Oper} {E : SEnv} {L L' L0 : SHeap} [PanicAny Q] (hn : hnrm L = some L') (hk : selO ks L' = some L0) (hm : P.follows .mixedOrders = true)
    (hp : (Region.noSelect l.toArray && lastOk .any l.toArray tail && planOk .any l.toArray true order (Array.replicate l.toArray.size false) && decide (order.depth ≤ l.toArray.size)) = true)
    (h : WPS P n lo s l.toArray Q L0 tail order E L') : WPC P n lo s (.region id l.toArray true) Q E L := by
  rw [hnrm_eq hn]; exact c_regionSub order tail ks hk hm hp h
theorem h_backN {i : Nat} {r : SPlan} {E : SEnv} {L L' : SHeap} (hn : hnrm L = some L') (hs : List.Sublist L0 L') (k : WPS P n lo s ops Q L0 tail r E L') :
    WPL P n lo s ops (Exit.then (backS P n lo s ops Q L0 tail i r) Q) [] E L := by
  rw [hnrm_eq hn]; exact h_back hs k
theorem kReg (id : Nat) {ol : Array Oper} {dr : Bool} {E : SEnv} {L : SHeap} (h : WPC P n lo s (.region id ol dr) Q E L) : WPC P n lo s (.region id ol dr) Q E L := h
theorem kBack {i : Nat} {r : SPlan} {E : SEnv} {L : SHeap} (h : WPL P n lo s ops (Exit.then (backS P n lo s ops Q L0 tail i r) Q) [] E L) : WPL P n lo s ops (Exit.then (backS P n lo s ops Q L0 tail i r) Q) [] E L := h
end
attribute [irreducible] WPL WPC WPQ WPS SEnds SOpV
end Sx
