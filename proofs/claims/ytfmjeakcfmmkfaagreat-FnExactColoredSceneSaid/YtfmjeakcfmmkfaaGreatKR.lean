/-
  Slices of plain cells: rectangles, truth values. Regions.
-/
import Derived.Test.YtfmjeakcfmmkfaaGreatD1
import Derived.Test.YtfmjeakcfmmkfaaGreatM2
set_option linter.unusedVariables false
namespace Go.Proofs.YtfmjeakcfmmkfaaGreat
open Go Sx
attribute [local irreducible] Exit.then Exit.inBlock bodyPost
section
variable {α : Type} {c : α → List Value} {k : Nat} {T : TypeId}
def OVs (c : α → List Value) (k : Nat) (T : TypeId) (v : Value) (l : List α) (H : SPiece) : Prop := OVec k T v l.length (l.flatMap c) H
def RVs (c : α → List Value) (k : Nat) (d : α) (w : World) (v : Value) (l : List α) : Prop := RRow w v k l.length (fun i => c (l.getD i d))
theorem flatMap_range (d : α) : ∀ l : List α, l.flatMap c = (List.range l.length).flatMap (fun i => c (l.getD i d))
  | [] => rfl
  | x :: l => by
    have := flatMap_range d l
    rw [List.length_cons, List.range_succ_eq_map, List.flatMap_cons, List.flatMap_cons, List.flatMap_map, this]
    rfl
theorem OVs.reads (d : α) (hc : ∀ a, (c a).length = k) {v : Value} {l : List α} {H : SPiece} (h : OVs c k T v l H) {w : World} (hw : Holds w H) : RVs c k d w v l :=
  OVec.reads h hw (Nat.le_trans (OVec.le h) (by decide)) (fun i hi => hc _) (flatMap_range d l)
theorem OVs.form {v : Value} {l : List α} {H : SPiece} (h : OVs c k T v l H) : ∃ a q, v = .slice a l.length q := by
  have key : ∀ {n : Nat} {xs : List Value}, OVec k T v n xs H → ∃ a q, v = .slice a n q := by
    intro n xs hh
    cases hh with
    | nil => exact ⟨_, _, rfl⟩
    | blk b n cap xs r h1 h2 h3 h4 => exact ⟨_, _, rfl⟩
  exact key h
theorem OVs.len {v : Value} {l : List α} {H : SPiece} (h : OVs c k T v l H) : l.length ≤ maxLen := OVec.le h
theorem RVs.keep {d : α} {w w' : World} {v : Value} {l : List α} (h : RVs c k d w v l) (hw : ∀ a u, w.cell? a = some u → w'.cell? a = some u) : RVs c k d w' v l := RRow.keep h hw
theorem RVs.form {d : α} {w : World} {v : Value} {l : List α} (h : RVs c k d w v l) : ∃ a q, v = .slice a l.length q := by
  obtain ⟨a, q, e, _⟩ := RRow.form h; exact ⟨a, q, e⟩
theorem OVs.nil : OVs c k T (.slice none 0 0) ([] : List α) [] := OVec.nil
theorem OVs.empty (b : Nat) : OVs c k T (.slice (some ⟨b, 0, none⟩) 0 0) ([] : List α) [(b, srow [] T)] := by
  have := OVec.blk (k := k) (T := T) b 0 0 [] [] (by simp) (by simp) (Nat.le_refl _) (by decide)
  simpa [OVs] using this
theorem flatMap_length (hc : ∀ a, (c a).length = k) : ∀ l : List α, (l.flatMap c).length = l.length * k
  | [] => by simp
  | x :: l => by rw [List.flatMap_cons, List.length_append, hc, flatMap_length hc l, List.length_cons, Nat.succ_mul]; omega
theorem OVs.whole (hc : ∀ a, (c a).length = k) (b : Nat) (l : List α) (hl : l.length ≤ maxLen) : OVs c k T (.slice (some ⟨b, 0, none⟩) l.length l.length) l [(b, srow (l.flatMap c) T)] := by
  have := OVec.blk (k := k) (T := T) b l.length l.length (l.flatMap c) [] (flatMap_length hc l) (by simpa using flatMap_length hc l) (Nat.le_refl _) hl
  simpa [OVs] using this
end
section
variable {P : Program} {n : Nat} {lo : SMut} {s : World} {ops : Array Oper} {Q : Exit → Act → World → Prop} {E : SEnv} {L : SHeap} {d : Nat} {ty : TypeId} {pos : String} {after : Array Edge} {rest : List Oper}
/-- append of a literal of one element -/
theorem s_appendVs (i i2 : Nat) {α : Type} {c : α → List Value} {kk : Nat} {t e : TypeId} {x y : Operand} {v z : Value} {by_ b2 : Nat} {l : List α} {a : α} {H : SPiece} {X U : TypeId} [hu : SUnd P t (.slice e)] [hinf : SInf P e z kk by_]
    (hx : sval E x = some v) (hy : sval E y = some (.slice (some ⟨b2, 0, none⟩) 1 1)) (hv : OVs c kk e v l H) (hL : getL L i = some H) (hL2 : getL L i2 = some [(b2, srow (c a) U)])
    (hc : (c a).length = kk) (h1 : oneCells (c a) = true) (hz : z.cells.size = kk) (hk0 : 0 < kk) (hb : l.length + 1 ≤ 100000000) (hby : by_ ≤ 1024) (hd : Nat.blt d n = true)
    (k : ∀ v' H', OVs c kk e v' (l ++ [a]) H' → WPL P n lo s ops Q rest ((d, v') :: E) (setL L i H')) :
    WPL P n lo s ops Q (⟨some d, .call { callee := .builtin .append, args := #[x, y], argTypes := #[t, t] }, X, pos, after, none⟩ :: rest) E L := by
  have hmul : (l.length + 1) * by_ ≤ 100000000 * 1024 := Nat.mul_le_mul hb hby
  refine s_append i (ys := c a) (m := 1) hx hy hv hL hz hk0 (by omega) h1 (fun w hw => ⟨_, _, rfl, fun j q hj => ?_⟩) (by omega) (by omega) hd (fun v' H' h => k v' H' ?_)
  · rw [Addr.add_lit, Nat.zero_add]; exact hw.captured hL2 j q hj
  · have := h
    unfold OVs
    rw [List.flatMap_append, List.length_append]
    simpa using this
end
/-! ### rectangles -/
abbrev ORects (v : Value) (l : List DRect) (H : SPiece) : Prop := OVs cRect 4 123 v l H
abbrev RRects (w : World) (v : Value) (l : List DRect) : Prop := RVs cRect 4 DRect.zero w v l
theorem ORects.rd {v : Value} {l : List DRect} {H : SPiece} (h : ORects v l H) {w : World} (hw : Holds w H) : RRects w v l := OVs.reads (c := cRect) (k := 4) DRect.zero (fun _ => rfl) h hw
abbrev vReg (v : Value) : Value := .agg #[v]
def OReg (u : Value) (l : List DRect) (H : SPiece) : Prop := ∃ v, u = vReg v ∧ ORects v l H
/-! ### truth values by places of the screen -/
def gvals (g : Grid) : List Bool := (List.range 256).map (fun q => g (q / 16) (q % 16))
theorem gvals_length (g : Grid) : (gvals g).length = 256 := by simp [gvals]
theorem gvals_get (g : Grid) {q : Nat} (h : q < 256) : (gvals g).getD q false = g (q / 16) (q % 16) := by
  simp [gvals, List.getD_eq_getElem?_getD, h]
theorem gvals_at (g : Grid) {y x : Nat} (hy : y < 16) (hx : x < 16) : (gvals g).getD (y * 16 + x) false = g y x := by
  rw [gvals_get g (by omega), show (y * 16 + x) / 16 = y by omega, show (y * 16 + x) % 16 = x by omega]
theorem gvals_congr {g h : Grid} (e : g.eqv h) : gvals g = gvals h := by
  apply List.map_congr_left
  intro q hq
  rw [List.mem_range] at hq
  exact e _ _ (by omega) (by omega)
def Grid.put (g : Grid) (y x : Nat) (v : Bool) : Grid := fun b a => if b = y ∧ a = x then v else g b a
theorem gvals_set (g : Grid) {y x : Nat} (hy : y < 16) (hx : x < 16) (v : Bool) : (gvals g).set (y * 16 + x) v = gvals (Grid.put g y x v) := by
  apply List.ext_getElem?
  intro q
  rw [List.getElem?_set]
  by_cases hq : q < 256
  · have e1 : (gvals g)[q]? = some (g (q / 16) (q % 16)) := by simp [gvals, hq]
    have e2 : (gvals (Grid.put g y x v))[q]? = some (Grid.put g y x v (q / 16) (q % 16)) := by simp [gvals, hq]
    rw [e1, e2, gvals_length]
    unfold Grid.put
    by_cases e : y * 16 + x = q
    · rw [if_pos e, if_pos (by omega), if_pos (by omega)]
    · rw [if_neg e, if_neg (by omega)]
  · rw [if_neg (by omega), List.getElem?_eq_none (by rw [gvals_length]; omega), List.getElem?_eq_none (by rw [gvals_length]; omega)]
abbrev cBool (v : Bool) : List Value := [.bool v]
abbrev OBools (v : Value) (l : List Bool) (H : SPiece) : Prop := OVs cBool 1 4 v l H
abbrev RBools (w : World) (v : Value) (l : List Bool) : Prop := RVs cBool 1 false w v l
theorem OBools.rd {v : Value} {l : List Bool} {H : SPiece} (h : OBools v l H) {w : World} (hw : Holds w H) : RBools w v l := OVs.reads (c := cBool) (k := 1) false (fun _ => rfl) h hw
def bvals (l : List Bool) : List Value := l.map Value.bool
theorem flatMap_cBool : ∀ l : List Bool, l.flatMap cBool = l.map Value.bool
  | [] => rfl
  | x :: l => by rw [List.flatMap_cons, flatMap_cBool l]; rfl
theorem OBools.full (b : Nat) {m : Nat} (q : Bool) (hm : m ≤ maxLen) : OBools (.slice (some ⟨b, 0, none⟩) m m) (List.replicate m q) [(b, srow (List.replicate m (.bool q)) 4)] := by
  have := OVs.whole (c := cBool) (k := 1) (T := 4) (fun _ => rfl) b (List.replicate m q) (by simpa using hm)
  rw [flatMap_cBool] at this
  simpa using this
section
variable {P : Program} {n : Nat} {lo : SMut} {s : World} {ops : Array Oper} {Q : Exit → Act → World → Prop} {E : SEnv} {L : SHeap} {d : Nat} {ty : TypeId} {pos : String} {after : Array Edge} {rest : List Oper}
/-- a store into an own slice of truth values -/
theorem s_setB (i : Nat) {T : TypeId} {x y : Operand} {v z : Value} {l : List Bool} {H : SPiece} {q : Bool} {k by_ : Nat} [hi : SInf P T z 1 by_]
    (hx : sval E x = some (.pointer (some ⟨(baseOf v).1, (baseOf v).2 + k * 1, none⟩))) (hy : sval E y = some (.bool q)) (hv : OBools v l H) (hL : getL L i = some H) (hk : k < l.length)
    (c : ∀ H', OBools v (l.set k q) H' → WPL P n lo s ops Q rest E (setL L i H')) : WPL P n lo s ops Q (⟨none, .store T x y, ty, pos, after, none⟩ :: rest) E L := by
  unfold OBools OVs at hv
  rw [flatMap_cBool] at hv
  generalize hxs : l.map Value.bool = xs at hv
  generalize hnn : l.length = nn at hv
  cases hv with
  | nil => omega
  | blk b n' cap xs r h1 h2 h3 h4 =>
    subst hxs
    subst hnn
    simp only [baseOf, Nat.zero_add, Nat.mul_one] at hx
    refine s_setR i hx hy hL rfl (by rw [List.length_append, List.length_map]; omega) ?_
    rw [List.set_append_left _ _ (by rw [List.length_map]; exact hk), ← List.map_set]
    refine c _ ?_
    have := OVec.blk (k := 1) (T := 4) b l.length cap ((l.set k q).map Value.bool) r (by rw [List.length_map, List.length_set]; omega) (by rw [List.length_append, List.length_map, List.length_set]; rw [List.length_append, List.length_map] at h2; omega) h3 h4
    unfold OBools OVs
    rw [flatMap_cBool, List.length_set]; exact this
end
end Go.Proofs.YtfmjeakcfmmkfaaGreat
