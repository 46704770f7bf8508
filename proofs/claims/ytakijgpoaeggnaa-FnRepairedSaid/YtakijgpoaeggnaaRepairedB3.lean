/-
  Texts that the law stands on, part 3: M15, M17, L0, E8, E3, E4, E5, E6, E7, KG, EL, EM, EN, EO, EP, EQ, ER, ES, ET, E9, EG, EH.
-/
import Derived.Lib.Overlaps
import Derived.Test.YtakijgpoaeggnaaSx
import Derived.Test.YtakijgpoaeggnaaRepairedB2
set_option linter.unusedVariables false
namespace Sx
def accG (f : Nat → Grid) : Nat → Grid
  | 0 => Grid.none
  | n + 1 => (accG f n).or (f n)
theorem accG_iff {f : Nat → Grid} {y x : Nat} : ∀ {n : Nat}, accG f n y x = true ↔ ∃ i, i < n ∧ f i y x = true
  | 0 => ⟨fun h => (by cases h), fun ⟨i, h, _⟩ => absurd h (by omega)⟩
  | n + 1 => by
    unfold accG Grid.or
    rw [Bool.or_eq_true, accG_iff (n := n)]
    constructor
    · rintro (⟨i, h1, h2⟩ | h)
      · exact ⟨i, by omega, h2⟩
      · exact ⟨n, by omega, h⟩
    · rintro ⟨i, h1, h2⟩
      by_cases e : i = n
      · subst e; exact .inr h2
      · exact .inl ⟨i, by omega, h2⟩
def damA (a b : DScene) (j : Nat) : Grid :=
  if surfaceIndex b.ss (a.ss.getD j default).Id < 0 then rectG (surfRect (a.ss.getD j default))
  else if a.ss.getD j default = b.ss.getD (surfaceIndex b.ss (a.ss.getD j default).Id).toNat default then Grid.none
  else (rectG (surfRect (a.ss.getD j default))).or (rectG (surfRect (b.ss.getD (surfaceIndex b.ss (a.ss.getD j default).Id).toNat default)))
def damC (a b : DScene) (i k : Nat) : Grid :=
  if surfaceIndex a.ss (b.ss.getD i default).Id < surfaceIndex a.ss (b.ss.getD k default).Id then rectG ((surfRect (b.ss.getD i default)).inter (surfRect (b.ss.getD k default))) else Grid.none
def damB (a b : DScene) (i : Nat) : Grid :=
  if surfaceIndex a.ss (b.ss.getD i default).Id < 0 then rectG (surfRect (b.ss.getD i default)) else accG (damC a b i) i
def damAll (a b : DScene) : Grid := (accG (damA a b) a.ss.length).or (accG (damB a b) b.ss.length)
theorem holds_iff (r : DRect) (y x : Nat) : rectG r y x = true ↔ r.has x y := decide_eq_true_iff
theorem inter_rect {r q : DRect} (hr : r.ok) (hq : q.ok) (y x : Nat) : rectG (r.inter q) y x = true ↔ r.has x y ∧ q.has x y := by rw [holds_iff]; exact inter_has hr hq x y
theorem getD_mem {l : List DSurf} {i : Nat} (h : i < l.length) : l.getD i default ∈ l := mem_getD.2 ⟨i, h, rfl⟩
theorem twin {l : List DSurf} {id : Int} (h : ¬ surfaceIndex l id < 0) : (surfaceIndex l id).toNat < l.length ∧ (l.getD (surfaceIndex l id).toNat default).Id = id := by
  rcases surfaceIndex_bd l id with ⟨h1, _⟩ | ⟨j, h1, h2, h3, _⟩
  · omega
  · rw [h1]; exact ⟨by omega, by simpa using h3⟩
theorem damAll_iff {a b : DScene} (ha : a.ok) (hb : b.ok) (y x : Nat) : damAll a b y x = true ↔ damP a b x y := by
  have hsa := ha.2.2.2.2
  have hsb := hb.2.2.2.2
  unfold damAll Grid.or damP
  rw [Bool.or_eq_true, accG_iff, accG_iff]
  constructor
  · rintro (⟨j, hj, h⟩ | ⟨i, hi, h⟩)
    · unfold damA at h
      split at h
      · rename_i h0
        exact .inl ⟨_, getD_mem hj, fun hm => by have := ((index_same hsb _).1 hm).1; omega, (holds_iff _ _ _).1 h⟩
      · rename_i h0
        split at h
        · cases h
        · rename_i h1
          unfold Grid.or at h
          rw [Bool.or_eq_true] at h
          have ht := twin h0
          rcases h with h | h
          · exact .inl ⟨_, getD_mem hj, fun hm => h1 ((index_same hsb _).1 hm).2.symm, (holds_iff _ _ _).1 h⟩
          · refine .inr (.inl ⟨_, getD_mem ht.1, fun hm => h1 ?_, (holds_iff _ _ _).1 h⟩)
            have := ((index_same hsa _).1 hm).2
            rw [ht.2, surfaceIndex_at hsa hj] at this
            simpa using this
    · unfold damB at h
      split at h
      · rename_i h0
        exact .inr (.inl ⟨_, getD_mem hi, fun hm => by have := ((index_same hsa _).1 hm).1; omega, (holds_iff _ _ _).1 h⟩)
      · rename_i h0
        obtain ⟨k, hk, h⟩ := accG_iff.1 h
        unfold damC at h
        split at h
        · rename_i h1
          have h2 := (inter_rect (surfRect_ok _) (surfRect_ok _) y x).1 h
          exact .inr (.inr ⟨i, k, hk, hi, by omega, h1, h2.1, h2.2⟩)
        · cases h
  · rintro (⟨s, h1, h2, h3⟩ | ⟨s, h1, h2, h3⟩ | ⟨i, k, hk, hi, h1, h2, h3, h4⟩)
    · obtain ⟨j, hj, rfl⟩ := mem_getD.1 h1
      refine .inl ⟨j, hj, ?_⟩
      unfold damA
      split
      · exact (holds_iff _ _ _).2 h3
      · rename_i h0
        rw [if_neg (fun e => h2 (by rw [e]; exact getD_mem (twin h0).1))]
        unfold Grid.or
        rw [(holds_iff _ _ _).2 h3, Bool.true_or]
    · obtain ⟨i, hi, rfl⟩ := mem_getD.1 h1
      by_cases h0 : surfaceIndex a.ss (b.ss.getD i default).Id < 0
      · refine .inr ⟨i, hi, ?_⟩
        unfold damB
        rw [if_pos h0]; exact (holds_iff _ _ _).2 h3
      · have ht := twin h0
        refine .inl ⟨_, ht.1, ?_⟩
        unfold damA
        rw [ht.2, surfaceIndex_at hsb hi, if_neg (by omega), Int.toNat_natCast, if_neg (fun e => h2 (by rw [← e]; exact getD_mem ht.1))]
        unfold Grid.or
        rw [(holds_iff (surfRect (b.ss.getD i default)) _ _).2 h3, Bool.or_true]
    · refine .inr ⟨i, hi, ?_⟩
      unfold damB
      rw [if_neg (by omega)]
      refine accG_iff.2 ⟨k, hk, ?_⟩
      unfold damC
      rw [if_pos h2]
      exact (inter_rect (surfRect_ok _) (surfRect_ok _) y x).2 ⟨h3, h4⟩
theorem damAll_eq {a b : DScene} (ha : a.ok) (hb : b.ok) : damAll a b = damG a b := by
  funext y x
  exact Bool.eq_iff_iff.2 ((damAll_iff ha hb y x).trans (damG_iff a b y x).symm)
def dlA (a b : DScene) : Nat → List DRect
  | 0 => []
  | j + 1 => dlA a b j ++ (if surfaceIndex b.ss (a.ss.getD j default).Id < 0 ∨ ¬ a.ss.getD j default = b.ss.getD (surfaceIndex b.ss (a.ss.getD j default).Id).toNat default then [surfRect (a.ss.getD j default)] else [])
def dlC (a b : DScene) (i : Nat) : Nat → List DRect
  | 0 => []
  | k + 1 => dlC a b i k ++ (if 0 ≤ surfaceIndex a.ss (b.ss.getD i default).Id ∧ surfaceIndex a.ss (b.ss.getD i default).Id < surfaceIndex a.ss (b.ss.getD k default).Id then [(surfRect (b.ss.getD i default)).inter (surfRect (b.ss.getD k default))] else [])
def dlO (a b : DScene) (i : Nat) : List DRect := if surfaceIndex a.ss (b.ss.getD i default).Id < 0 ∨ ¬ a.ss.getD (surfaceIndex a.ss (b.ss.getD i default).Id).toNat default = b.ss.getD i default then [surfRect (b.ss.getD i default)] else []
def dlB (a b : DScene) : Nat → List DRect
  | 0 => []
  | i + 1 => dlB a b i ++ (dlO a b i ++ dlC a b i i)
def mapFR (f : DRect → DRect) (l : List DRect) (j : Nat) : List DRect := (l.take j).map f ++ l.drop j
end Sx
namespace Sx
theorem or_none (g : Grid) : g.or Grid.none = g := by funext y x; unfold Grid.or Grid.none; rw [Bool.or_false]
theorem or_assoc' (g p q : Grid) : (g.or p).or q = g.or (p.or q) := by funext y x; unfold Grid.or; rw [Bool.or_assoc]
theorem index_lt (l : List DSurf) (id : Int) : -1 ≤ surfaceIndex l id ∧ surfaceIndex l id < l.length := by
  rcases surfaceIndex_bd l id with ⟨h1, _⟩ | ⟨j, h1, h2, _, _⟩ <;> omega
theorem damA_neg {a b : DScene} {j : Nat} (h : surfaceIndex b.ss (a.ss.getD j default).Id < 0) : (accG (damA a b) j).or (rectG (surfRect (a.ss.getD j default))) = accG (damA a b) (j + 1) := by
  show _ = (accG (damA a b) j).or (damA a b j)
  unfold damA; rw [if_pos h]
theorem damA_same {a b : DScene} {j : Nat} (h : ¬ surfaceIndex b.ss (a.ss.getD j default).Id < 0) (e : a.ss.getD j default = b.ss.getD (surfaceIndex b.ss (a.ss.getD j default).Id).toNat default) : accG (damA a b) (j + 1) = accG (damA a b) j := by
  show (accG (damA a b) j).or (damA a b j) = _
  have : damA a b j = Grid.none := by unfold damA; rw [if_neg h, if_pos e]
  rw [this, or_none]
theorem damA_diff {a b : DScene} {j : Nat} (h : ¬ surfaceIndex b.ss (a.ss.getD j default).Id < 0) (e : ¬ a.ss.getD j default = b.ss.getD (surfaceIndex b.ss (a.ss.getD j default).Id).toNat default) :
    ((accG (damA a b) j).or (rectG (surfRect (a.ss.getD j default)))).or (rectG (surfRect (b.ss.getD (surfaceIndex b.ss (a.ss.getD j default).Id).toNat default))) = accG (damA a b) (j + 1) := by
  show _ = (accG (damA a b) j).or (damA a b j)
  have : damA a b j = (rectG (surfRect (a.ss.getD j default))).or (rectG (surfRect (b.ss.getD (surfaceIndex b.ss (a.ss.getD j default).Id).toNat default))) := by unfold damA; rw [if_neg h, if_neg e]
  rw [this, or_assoc']
def dB (a b : DScene) (i : Nat) : Grid := (accG (damA a b) a.ss.length).or (accG (damB a b) i)
theorem dB_zero (a b : DScene) : dB a b 0 = accG (damA a b) a.ss.length := or_none _
theorem dB_neg {a b : DScene} {i : Nat} (h : surfaceIndex a.ss (b.ss.getD i default).Id < 0) : (dB a b i).or (rectG (surfRect (b.ss.getD i default))) = dB a b (i + 1) := by
  unfold dB
  rw [or_assoc']
  show _ = Grid.or _ ((accG (damB a b) i).or (damB a b i))
  have : damB a b i = rectG (surfRect (b.ss.getD i default)) := by unfold damB; rw [if_pos h]
  rw [this]
theorem dB_in {a b : DScene} {i : Nat} (h : ¬ surfaceIndex a.ss (b.ss.getD i default).Id < 0) : (dB a b i).or (accG (damC a b i) i) = dB a b (i + 1) := by
  unfold dB
  rw [or_assoc']
  show _ = Grid.or _ ((accG (damB a b) i).or (damB a b i))
  have : damB a b i = accG (damC a b i) i := by unfold damB; rw [if_neg h]
  rw [this]
def dC (a b : DScene) (i k : Nat) : Grid := (dB a b i).or (accG (damC a b i) k)
theorem dC_zero (a b : DScene) (i : Nat) : dC a b i 0 = dB a b i := or_none _
theorem dC_yes {a b : DScene} {i k : Nat} (h : surfaceIndex a.ss (b.ss.getD i default).Id < surfaceIndex a.ss (b.ss.getD k default).Id) : (dC a b i k).or (rectG ((surfRect (b.ss.getD i default)).inter (surfRect (b.ss.getD k default)))) = dC a b i (k + 1) := by
  unfold dC
  rw [or_assoc']
  show _ = Grid.or _ ((accG (damC a b i) k).or (damC a b i k))
  have : damC a b i k = rectG ((surfRect (b.ss.getD i default)).inter (surfRect (b.ss.getD k default))) := by unfold damC; rw [if_pos h]
  rw [this]
theorem dC_no {a b : DScene} {i k : Nat} (h : ¬ surfaceIndex a.ss (b.ss.getD i default).Id < surfaceIndex a.ss (b.ss.getD k default).Id) : dC a b i (k + 1) = dC a b i k := by
  unfold dC
  show Grid.or _ ((accG (damC a b i) k).or (damC a b i k)) = _
  have : damC a b i k = Grid.none := by unfold damC; rw [if_neg h]
  rw [this, or_none]
theorem dB_all {a b : DScene} (ha : a.ok) (hb : b.ok) : dB a b b.ss.length = damG a b := damAll_eq ha hb
def dlT (a b : DScene) (i : Nat) : List DRect := dlA a b a.ss.length ++ dlB a b i
def dlU (a b : DScene) (i k : Nat) : List DRect := dlT a b i ++ dlO a b i ++ dlC a b i k
theorem damageOf_far {a b : DScene} (ha : a.ok) (hb : b.ok) (h : ¬ (sameSize a b ∧ a.Back = b.Back)) : damageOf a b = canon (scrG b) := by unfold damageOf; rw [if_pos ⟨ha, hb⟩, if_neg h]
theorem damageOf_near {a b : DScene} (ha : a.ok) (hb : b.ok) (h : sameSize a b ∧ a.Back = b.Back) : damageOf a b = canon ((damG a b).and (scrG b)) := by unfold damageOf; rw [if_pos ⟨ha, hb⟩, if_pos h]
theorem damageOf_bad {a b : DScene} (h : ¬ (a.ok ∧ b.ok)) : damageOf a b = [] := by unfold damageOf; rw [if_neg h]
end Sx
namespace Go.Proofs.Ytakijgpoaeggnaa
open Go Sx
def OImgN (u : Value) (i : DImg) (n : Int) (H : SPiece) : Prop := ∃ d, u = .tuple #[vImg i d, .int .i64 n] ∧ OInts 3 d i.data H
theorem _root_.Sx.SRes.cellG {P : Program} {E : SEnv} {L : SHeap} {t : Tmp} {T : TypeId} {b : Nat} {l : List Value} {td : TypeDesc} {z : Value} {k by_ : Nat} {r : List ResultVar} {vs : List Value} [hu : SUnd P T td] [hi : SInf P T z k by_]
    (ht : slook E t = some (.pointer (some ⟨b, 0, none⟩))) (hd : sisRow td = true) (hf : FindW L b k l) (h : SRes P E L r vs) : SRes P E L (.cell t T :: r) (.agg l.toArray :: vs) := by
  obtain ⟨⟨U, h1⟩, h2⟩ := hf
  exact .cell ht hd h1 h2 h
end Go.Proofs.Ytakijgpoaeggnaa
namespace Go.Proofs.Ytakijgpoaeggnaa
open Go Sx
attribute [local irreducible] Exit.then Exit.inBlock bodyPost tcells OInts OElems
def OSceneB (u : Value) (s : DScene) (q : Bool) (H : SPiece) : Prop := ∃ v, u = .tuple #[vScene s v, .bool q] ∧ OElems eSurf 62 v s.ss H
theorem ovec_split {k : Nat} {T : TypeId} {v : Value} {n : Nat} {xs : List Value} {H : SPiece} (h : OVec k T v n xs H) :
    (v = .slice none 0 0 ∧ n = 0 ∧ xs = [] ∧ H = []) ∨ ∃ b cap r, v = .slice (some ⟨b, 0, none⟩) n cap ∧ H = [(b, srow (xs ++ r) T)] ∧ xs.length = n * k ∧ (xs ++ r).length = cap * k ∧ n ≤ cap ∧ cap ≤ maxLen := by
  cases h with
  | nil => exact .inl ⟨rfl, rfl, rfl, rfl⟩
  | blk b n cap xs r h1 h2 h3 h4 => exact .inr ⟨b, cap, r, rfl, rfl, h1, h2, h3, h4⟩
theorem tri_rd {T : List (ETri DSurf)} {G : SPiece} (h : ∀ t ∈ T, eSurf.own t.2.1 t.1 t.2.2) {w : World} (hw : Holds w (tpiece T ++ G)) : ∀ t ∈ T, RInts w t.2.1 t.1.buf.data := fun t ht =>
  OInts.reads (h t ht) (fun b o hm => hw b o (List.mem_append_left _ (List.mem_flatMap.2 ⟨t, ht, hm⟩)))
theorem RS_tri {T : List (ETri DSurf)} {U : TypeId} {v : Value} {H : SPiece} {w : World} (h1 : OVec eSurf.k U v T.length (tcells eSurf T) H) (hw : Holds w H) (h : ∀ t ∈ T, RInts w t.2.1 t.1.buf.data) : RS eSurf w v (T.map (·.1)) := by
  have e : ∀ i, (T.map (·.1)).getD i eSurf.dflt = (T.getD i dT).1 := fun i => (getT_fst (T := T) (j := i)).symm
  refine ⟨fun i => (T.getD i dT).2.1, ⟨?_, fun i hi => ?_⟩⟩
  · have hr := trow h1 hw
    rw [List.length_map]
    have e2 : (fun i => eSurf.cells ((T.map (·.1)).getD i eSurf.dflt) (T.getD i dT).2.1) = (fun i => eSurf.cells (T.getD i dT).1 (T.getD i dT).2.1) := funext fun i => by rw [e i]
    rw [e2]; exact hr
  · rw [List.length_map] at hi
    rw [e i]
    exact h _ (getT_mem hi)
theorem scene_len {s : DScene} (h : s.ok) : surfsLen s.ss ≤ 2000000 := by
  have h6 := h.2.2.2.1
  unfold surfsLen
  have : ∀ n, n ≤ s.ss.length → sumTo (fun i => (s.ss.getD i default).buf.data.length) n ≤ n * 256 := by
    intro n
    induction n with
    | zero => intro _; exact Nat.le_refl _
    | succ n ih =>
      intro hn
      have h1 := ih (by omega)
      have h2 := (getD_ok h (show n < s.ss.length by omega)).2.2.2.2.2.2.len
      show sumTo _ n + (s.ss.getD n default).buf.data.length ≤ _
      omega
  have := this _ (Nat.le_refl _)
  omega
section
variable {P : Program} {n : Nat} {lo : SMut} {s : World} {ops : Array Oper} {Q : Exit → Act → World → Prop} {E : SEnv} {L : SHeap} {d : Nat} {ty : TypeId} {pos : String} {after : Array Edge} {rest : List Oper}
theorem s_appendT (i i2 : Nat) {t e : TypeId} {x y : Operand} {v z : Value} {by_ b2 : Nat} {T : List (ETri DSurf)} (t0 : ETri DSurf) {H : SPiece} {X U : TypeId} [hu : SUnd P t (.slice e)] [hinf : SInf P e z eSurf.k by_]
    (hx : sval E x = some v) (hy : sval E y = some (.slice (some ⟨b2, 0, none⟩) 1 1)) (hv : OVec eSurf.k e v T.length (tcells eSurf T) H) (hL : getL L i = some H) (hL2 : getL L i2 = some [(b2, srow (eSurf.cells t0.1 t0.2.1) U)])
    (h1 : oneCells (eSurf.cells t0.1 t0.2.1) = true) (hz : z.cells.size = eSurf.k) (hb : T.length + 1 ≤ 100000000) (hby : by_ ≤ 1024) (hd : Nat.blt d n = true)
    (k : ∀ v' H', OVec eSurf.k e v' (T ++ [t0]).length (tcells eSurf (T ++ [t0])) H' → WPL P n lo s ops Q rest ((d, v') :: E) (setL L i H')) :
    WPL P n lo s ops Q (⟨some d, .call { callee := .builtin .append, args := #[x, y], argTypes := #[t, t] }, X, pos, after, none⟩ :: rest) E L := by
  have hmul : (T.length + 1) * by_ ≤ 100000000 * 1024 := Nat.mul_le_mul hb hby
  refine s_append i (ys := eSurf.cells t0.1 t0.2.1) (m := 1) hx hy hv hL hz (by decide) (by rw [eSurf.klen, Nat.one_mul]) h1 (fun w hw => ⟨_, _, rfl, fun j q hj => ?_⟩) (by omega) (by omega) hd (fun v' H' h => ?_)
  · rw [Addr.add_lit, Nat.zero_add]
    exact hw.captured hL2 j q hj
  · refine k v' H' ?_
    rw [tcells_append, tcells_one, List.length_append]; exact h
theorem s_appendNil {t e : TypeId} {x y : Operand} {ad : Addr} {m c : Nat} {z : Value} {kk by_ : Nat} {X : TypeId} [hu : SUnd P t (.slice e)] [hinf : SInf P e z kk by_]
    (hx : sval E x = some (.slice (some ad) m c)) (hy : sval E y = some (.slice none 0 0)) (hle : m ≤ c) (hd : Nat.blt d n = true) (k : WPL P n lo s ops Q rest ((d, .slice (some ad) m c) :: E) L) :
    WPL P n lo s ops Q (⟨some d, .call { callee := .builtin .append, args := #[x, y], argTypes := #[t, t] }, X, pos, after, none⟩ :: rest) E L := by
  refine s_eff (E' := fun _ _ => []) (fun w u w' => u = .slice (some ad) m c ∧ w' = w) (fun aa w ha hw => ⟨_, _, ?_, rfl, rfl⟩) hd ?_
  · obtain ⟨ii, i1, i2, i3, i4⟩ := hinf.out
    simp [execOp, resolve, invoke, builtin, ha.sval hx, ha.sval hy, Builtin.append_, srun_und, Builtin.lenOf, Builtin.firstCells, sizeOf, typeInfo, i1, hle, storeCells]
  · rintro w u w' hw ⟨rfl, rfl⟩ aa ha
    exact (by unfold WPL at k; exact k aa _ ha hw)
theorem s_appendY (i i2 : Nat) {t e : TypeId} {x y : Operand} {v z : Value} {by_ b2 : Nat} {R : List (ETri DSurf)} (t0 : ETri DSurf) {H : SPiece} {X : TypeId} [hu : SUnd P t (.slice e)] [hinf : SInf P e z eSurf.k by_]
    (hx : sval E x = some (.slice (some ⟨b2, 0, none⟩) 1 1)) (hy : sval E y = some v) (hv : OVec eSurf.k e v R.length (tcells eSurf R) H) (hL2 : getL L i2 = some H) (hL : getL L i = some [(b2, srow (eSurf.cells t0.1 t0.2.1) e)])
    (h1 : oneCells (tcells eSurf R) = true) (hz : z.cells.size = eSurf.k) (hb : R.length + 1 ≤ 100000000) (hby : by_ ≤ 1024) (hd : Nat.blt d n = true)
    (k : ∀ v' H', OVec eSurf.k e v' (t0 :: R).length (tcells eSurf (t0 :: R)) H' → WPL P n lo s ops Q rest ((d, v') :: E) (setL L i H')) :
    WPL P n lo s ops Q (⟨some d, .call { callee := .builtin .append, args := #[x, y], argTypes := #[t, t] }, X, pos, after, none⟩ :: rest) E L := by
  have hmul : (1 + R.length) * by_ ≤ 100000000 * 1024 := Nat.mul_le_mul (by omega) hby
  have o : OVec eSurf.k e (.slice (some ⟨b2, 0, none⟩) 1 1) 1 (eSurf.cells t0.1 t0.2.1) [(b2, srow (eSurf.cells t0.1 t0.2.1) e)] := by
    have := OVec.blk (k := eSurf.k) (T := e) b2 1 1 (eSurf.cells t0.1 t0.2.1) [] (by rw [eSurf.klen, Nat.one_mul]) (by rw [List.append_nil, eSurf.klen, Nat.one_mul]) (Nat.le_refl _) (by decide)
    rwa [List.append_nil] at this
  rcases ovec_split hv with ⟨rfl, h2, h3, rfl⟩ | ⟨b, cap, r, rfl, rfl, h2, h3, h4, h5⟩
  · have hR : R = [] := List.eq_nil_of_length_eq_zero h2
    subst hR
    refine s_appendNil hx hy (Nat.le_refl _) hd ?_
    have := k (.slice (some ⟨b2, 0, none⟩) 1 1) [(b2, srow (eSurf.cells t0.1 t0.2.1) e)] (by rw [tcells_cons, show tcells eSurf ([] : List (ETri DSurf)) = [] from h3, List.append_nil]; exact o)
    obtain ⟨A, B, h6, h7⟩ := getL_split hL
    rw [h7, ← h6] at this
    exact this
  · refine s_append i (ys := tcells eSurf R) (m := R.length) hx hy o hL hz (by decide) (tcells_length _ _) h1 (fun w hw => ⟨_, _, rfl, fun j q hj => ?_⟩) (by omega) (by omega) hd (fun v' H' h => ?_)
    · rw [Addr.add_lit, Nat.zero_add]
      exact hw.captured hL2 j q (by rw [List.getElem?_append_left (List.getElem?_eq_some_iff.1 hj).1]; exact hj)
    · refine k v' H' ?_
      rw [tcells_cons, List.length_cons, Nat.add_comm]; exact h
end
end Go.Proofs.Ytakijgpoaeggnaa
namespace Go.Proofs.Ytakijgpoaeggnaa
open Go Sx
attribute [local irreducible] Exit.then Exit.inBlock bodyPost
theorem run_copy_rows {P : Program} (w : World) (dT sT ty elem : TypeId) (kk : Nat) (g o dLen dCap : Nat) (a : Addr) (sLen sCap : Nat) (cur : Array Value) (t : TypeId) (cs : List Value)
    (hu : P.underlying dT = some (.slice elem)) (hs : (P.info? elem).map (·.size) = some kk)
    (hg : w.heap[g]? = some (.cells cur t (0, 0))) (hn : cs.length = Nat.min sLen dLen * kk)
    (hsrc : ∀ j v, cs[j]? = some v → w.cell? (a.add j) = some v) (hfit : o + cs.length ≤ cur.size) (h1 : ∀ v ∈ cs, v.oneCell' = true) :
    (Builtin.copy_ #[dT, sT] ty #[.slice (some ⟨g, o, none⟩) dLen dCap, .slice (some a) sLen sCap]).run P w =
      .ok (goInt (Nat.min sLen dLen)) (w.setRow g (cur.toList.take o ++ cs ++ cur.toList.drop (o + cs.length)).toArray) := by
  have hl := run_loadCells_list (P := P) w a cs hsrc
  have hst := run_storeCells_at P g o t cs 0 cur w hg (by simpa using hfit) h1
  cases hq : P.info? elem with
  | none => simp [hq] at hs
  | some i =>
    have hi : i.size = kk := by simpa [hq] using hs
    simp [Builtin.copy_, run_underlying hu, Builtin.lenOf, Builtin.firstCells, sizeOf, typeInfo, hq, hi, ← hn, hl, hst]
section
variable {P : Program} {n : Nat} {lo : SMut} {s : World} {E : SEnv} {L : SHeap} {d : Option Tmp} {ty : TypeId} {pos : String} {after : Array Edge} {g : Option (Nat × Bool)} {x y z' u' : Operand} {i j q : Int}
def offL (c kk lo : Nat) : Nat := if c = lo then 0 else lo * kk
theorem offL_in {c kk lo : Nat} (h : lo < c) : offL c kk lo = lo * kk := by unfold offL; rw [if_neg (by omega)]
theorem ov_sliceLK {t e : TypeId} {b o m c : Nat} {z : Value} {kk by_ : Nat} {ik : IntKind} [hu : SUnd P t (.slice e)] [hi : SInf P e z kk by_] (hx : sval E x = some (.slice (some ⟨b, o, none⟩) m c)) (hy : sval E y = some (.int ik j)) (hj : 0 ≤ j ∧ j ≤ m) :
    SOpV P n lo s E L ⟨d, .slice t x (some y) none none, ty, pos, after, g⟩ (.slice (some ⟨b, o + offL c kk j.toNat, none⟩) (m - j.toNat) (c - j.toNat)) :=
  SOpV.of_run fun aa ha w hw => by
    by_cases hc : c = j.toNat
    · simp [execOp, Instr.sliceAt, Instr.slice, Instr.sliceBounds, Instr.sliceBound, asIntOf, ha.sval hx, ha.sval hy, srun_und, srun_sizeOf, hj.1, hj.2, hc, offL]
    · simp [execOp, Instr.sliceAt, Instr.slice, Instr.sliceBounds, Instr.sliceBound, asIntOf, ha.sval hx, ha.sval hy, srun_und, srun_sizeOf, hj.1, hj.2, hc, offL, Addr.add_lit]
theorem ov_sliceLH {t e : TypeId} {b o m c : Nat} {z : Value} {kk by_ : Nat} {ik jk : IntKind} [hu : SUnd P t (.slice e)] [hi : SInf P e z kk by_] (hx : sval E x = some (.slice (some ⟨b, o, none⟩) m c)) (hy : sval E y = some (.int ik i)) (hz : sval E z' = some (.int jk j)) (hj : 0 ≤ i ∧ i ≤ j ∧ j ≤ c) :
    SOpV P n lo s E L ⟨d, .slice t x (some y) (some z') none, ty, pos, after, g⟩ (.slice (some ⟨b, o + offL c kk i.toNat, none⟩) (j.toNat - i.toNat) (c - i.toNat)) :=
  SOpV.of_run fun aa ha w hw => by
    obtain ⟨I, rfl⟩ := Int.eq_ofNat_of_zero_le hj.1
    obtain ⟨J, rfl⟩ := Int.eq_ofNat_of_zero_le (show 0 ≤ j by omega)
    have h0 : I ≤ J := by omega
    have h1 : J ≤ c := by omega
    by_cases hc : c = I
    · simp [execOp, Instr.sliceAt, Instr.slice, Instr.sliceBounds, Instr.sliceBound, asIntOf, ha.sval hx, ha.sval hy, ha.sval hz, srun_und, srun_sizeOf, hc, offL, show J = I by omega]
    · simp [execOp, Instr.sliceAt, Instr.slice, Instr.sliceBounds, Instr.sliceBound, asIntOf, ha.sval hx, ha.sval hy, ha.sval hz, srun_und, srun_sizeOf, h0, h1, hc, offL, Addr.add_lit]
theorem ov_slice3 {t e : TypeId} {b o m c : Nat} {z : Value} {kk by_ : Nat} {ik jk qk : IntKind} [hu : SUnd P t (.slice e)] [hi : SInf P e z kk by_] (hx : sval E x = some (.slice (some ⟨b, o, none⟩) m c)) (hy : sval E y = some (.int ik i)) (hz : sval E z' = some (.int jk j)) (hq : sval E u' = some (.int qk q)) (hj : 0 ≤ i ∧ i ≤ j ∧ j ≤ q ∧ q ≤ c) :
    SOpV P n lo s E L ⟨d, .slice t x (some y) (some z') (some u'), ty, pos, after, g⟩ (.slice (some ⟨b, o + offL q.toNat kk i.toNat, none⟩) (j.toNat - i.toNat) (q.toNat - i.toNat)) :=
  SOpV.of_run fun aa ha w hw => by
    obtain ⟨I, rfl⟩ := Int.eq_ofNat_of_zero_le hj.1
    obtain ⟨J, rfl⟩ := Int.eq_ofNat_of_zero_le (show 0 ≤ j by omega)
    obtain ⟨K, rfl⟩ := Int.eq_ofNat_of_zero_le (show 0 ≤ q by omega)
    have h0 : I ≤ J := by omega
    have h1 : J ≤ K := by omega
    have h2 : K ≤ c := by omega
    by_cases hc : K = I
    · simp [execOp, Instr.sliceAt, Instr.slice, Instr.sliceBounds, Instr.sliceBound, asIntOf, ha.sval hx, ha.sval hy, ha.sval hz, ha.sval hq, srun_und, srun_sizeOf, hc, offL, show J = I by omega, show I ≤ c by omega]
    · simp [execOp, Instr.sliceAt, Instr.slice, Instr.sliceBounds, Instr.sliceBound, asIntOf, ha.sval hx, ha.sval hy, ha.sval hz, ha.sval hq, srun_und, srun_sizeOf, h0, h1, h2, hc, offL, Addr.add_lit]
theorem ov_cap {t e : TypeId} {a : Option Addr} {m c : Nat} [hu : SUnd P t (.slice e)] (hx : sval E x = some (.slice a m c)) : SOpV P n lo s E L ⟨d, .call { callee := .builtin .cap, args := #[x], argTypes := #[t] }, ty, pos, after, g⟩ (.int .i64 c) :=
  SOpV.of_run fun aa ha w hw => by
    simp [execOp, resolve, invoke, builtin, Builtin.cap_, ha.sval hx, srun_und, goInt]
end
section
variable {P : Program} {n : Nat} {lo : SMut} {s : World} {ops : Array Oper} {Q : Exit → Act → World → Prop} {E : SEnv} {L : SHeap} {d : Nat} {ty : TypeId} {pos : String} {after : Array Edge} {rest : List Oper}
theorem s_appendIn (i : Nat) {t e : TypeId} {x y : Operand} {b nn cap m c : Nat} {a : Addr} {z : Value} {kk by_ : Nat} {cur ys : List Value} {X : TypeId} [hu : SUnd P t (.slice e)] [hinf : SInf P e z kk by_]
    (hx : sval E x = some (.slice (some ⟨b, 0, none⟩) nn cap)) (hy : sval E y = some (.slice (some a) m c)) (hL : getL L i = some [(b, srow cur e)]) (hc : cur.length = cap * kk)
    (hm0 : ys.length = m * kk) (hones : oneCells ys = true) (hr : ∀ w, SSt lo s L w → ∀ j q, ys[j]? = some q → w.cell? (a.add j) = some q) (hroom : nn + m ≤ cap) (hd : Nat.blt d n = true)
    (k : WPL P n lo s ops Q rest ((d, .slice (some ⟨b, 0, none⟩) (nn + m) cap) :: E) (setL L i [(b, srow (cur.take (nn * kk) ++ ys ++ cur.drop (nn * kk + ys.length)) e)])) :
    WPL P n lo s ops Q (⟨some d, .call { callee := .builtin .append, args := #[x, y], argTypes := #[t, t] }, X, pos, after, none⟩ :: rest) E L := by
  refine s_eff (E' := fun _ _ => []) (fun w u w' => u = .slice (some ⟨b, 0, none⟩) (nn + m) cap ∧ w' = w.setRow b (cur.take (nn * kk) ++ ys ++ cur.drop (nn * kk + ys.length)).toArray) (fun aa w ha hw => ⟨_, _, ?_, rfl, rfl⟩) hd ?_
  · obtain ⟨ii, i1, i2, i3, i4⟩ := hinf.out
    have hblk := (hw.blocks b _ (getL_flat hL (List.mem_singleton.2 rfl))).2
    have hr1 := run_append_room (P := P) w t X e ii hu.h i1 b nn cap cur.toArray hblk a m c ys (by rw [i3]; exact hm0) (hr w hw) (oneCells_mem hones) hroom
      (by rw [i3, hm0]; simp only [List.size_toArray, hc, ← Nat.add_mul]; exact Nat.mul_le_mul_right _ hroom)
    rw [i3] at hr1
    simp only [execOp, resolve, invoke, builtin, Sem.run_bind, Sem.run_pure, Result.andThen_ok, List.map_toArray, List.map_cons, List.map_nil, ha.sval hx, ha.sval hy, hr1]
  · rintro w u w' hw ⟨rfl, rfl⟩ aa ha
    exact (by unfold WPL at k; exact k aa _ ha (hw.srow hL))
theorem s_clear (i : Nat) {t e : TypeId} {x : Operand} {b o m c : Nat} {z : Value} {kk by_ : Nat} {cur : List Value} {T X : TypeId} [hu : SUnd P t (.slice e)] [hinf : SInf P e z kk by_]
    (hx : sval E x = some (.slice (some ⟨b, o, none⟩) m c)) (hL : getL L i = some [(b, srow cur T)]) (hz : oneCells z.cells.toList = true) (hzs : z.cells.size = kk) (hfit : o + m * kk ≤ cur.length)
    (k : ∀ zs : List Value, zs.length = m * kk → WPL P n lo s ops Q rest E (setL L i [(b, srow (cur.take o ++ zs ++ cur.drop (o + m * kk)) T)])) :
    WPL P n lo s ops Q (⟨none, .call { callee := .builtin .clear, args := #[x], argTypes := #[t] }, X, pos, after, none⟩ :: rest) E L := by
  unfold WPL
  intro aa w ha hw
  refine wpList_plain rfl fun K hK => ?_
  obtain ⟨ii, i1, i2, i3, i4⟩ := hinf.out
  have hblk := (hw.blocks b _ (getL_flat hL (List.mem_singleton.2 rfl))).2
  have hlen : (Builtin.zeroCells z.cells m).toList.length = m * kk := by rw [Array.length_toList, size_zeroCells, hzs]
  have h1 : ∀ u ∈ (Builtin.zeroCells z.cells m).toList, u.oneCell' = true := by
    intro u hu'
    have hz' := oneCells_mem hz
    rw [Array.mem_toList_iff] at hu'
    unfold Builtin.zeroCells at hu'
    rw [Array.mem_def] at hu'
    simp only [Array.toList_map, List.mem_map] at hu'
    obtain ⟨q, hq, rfl⟩ := hu'
    by_cases h0 : z.cells.size = 0
    · simp [h0]; rfl
    · have hlt : q % z.cells.size < z.cells.size := Nat.mod_lt _ (Nat.pos_of_ne_zero h0)
      rw [getElem!_pos z.cells _ hlt]
      exact hz' _ (by rw [Array.mem_toList_iff]; exact Array.getElem_mem hlt)
  have hst := run_storeCells_at P b o T (Builtin.zeroCells z.cells m).toList 0 cur.toArray w hblk (by rw [hlen]; simpa using hfit) h1
  simp only [Nat.add_zero, hlen] at hst
  have hk := k (Builtin.zeroCells z.cells m).toList hlen
  by_cases hm : m = 0
  · subst hm
    have e0 : (Builtin.zeroCells z.cells 0).toList = [] := List.eq_nil_of_length_eq_zero (by omega)
    have hr : (execOp aa.eval ⟨none, .call { callee := .builtin .clear, args := #[x], argTypes := #[t] }, X, pos, after, none⟩).run P w = .ok (.value (.tuple #[])) w := by
      simp [execOp, resolve, invoke, builtin, ha.sval hx, Builtin.clear_, srun_und]
    unfold Oper.wp
    rw [hr]
    rw [e0] at hk
    simp only [Nat.zero_mul, Nat.add_zero, List.append_nil, List.take_append_drop] at hk
    obtain ⟨A, B, h3, h4⟩ := getL_split hL
    rw [h4, ← h3] at hk
    exact hK _ _ (by unfold WPL at hk; exact hk _ _ ha hw)
  · have hr : (execOp aa.eval ⟨none, .call { callee := .builtin .clear, args := #[x], argTypes := #[t] }, X, pos, after, none⟩).run P w = .ok (.value (.tuple #[])) (w.setRow b (cur.take o ++ (Builtin.zeroCells z.cells m).toList ++ cur.drop (o + m * kk)).toArray) := by
      cases m with
      | zero => exact absurd rfl hm
      | succ m => simp [execOp, resolve, invoke, builtin, ha.sval hx, Builtin.clear_, srun_und, srun_zeroValue, hst]
    unfold Oper.wp
    rw [hr]
    exact hK _ _ (by unfold WPL at hk; exact hk _ _ ha (hw.srow hL))
theorem s_copyK (i : Nat) {dT sT e X : TypeId} {x y : Operand} {b o m c m2 c2 : Nat} {a : Addr} {cur cs : List Value} {T : TypeId} {z : Value} {kk by_ : Nat} [hu : SUnd P dT (.slice e)] [hi : SInf P e z kk by_]
    (hx : sval E x = some (.slice (some ⟨b, o, none⟩) m c)) (hy : sval E y = some (.slice (some a) m2 c2)) (hL : getL L i = some [(b, srow cur T)]) (hn : cs.length = Nat.min m2 m * kk) (hfit : o + cs.length ≤ cur.length) (h1 : oneCells cs = true)
    (hsrc : ∀ w, SSt lo s L w → ∀ j v, cs[j]? = some v → w.cell? (a.add j) = some v) (hd : Nat.blt d n = true)
    (k : WPL P n lo s ops Q rest ((d, goInt (Nat.min m2 m)) :: E) (setL L i [(b, srow (cur.take o ++ cs ++ cur.drop (o + cs.length)) T)])) :
    WPL P n lo s ops Q (⟨some d, .call { callee := .builtin .copy, args := #[x, y], argTypes := #[dT, sT] }, X, pos, after, none⟩ :: rest) E L := by
  refine s_eff (E' := fun _ _ => []) (fun w u w' => u = goInt (Nat.min m2 m) ∧ w' = w.setRow b (cur.take o ++ cs ++ cur.drop (o + cs.length)).toArray) (fun aa w ha hw => ⟨_, _, ?_, rfl, rfl⟩) hd ?_
  · obtain ⟨ii, i1, i2, i3, i4⟩ := hi.out
    have hblk := (hw.blocks b _ (getL_flat hL (List.mem_singleton.2 rfl))).2
    have h := run_copy_rows (P := P) w dT sT X e kk b o m c a m2 c2 cur.toArray T cs hu.h (by rw [i1]; simp [i3]) hblk hn (hsrc w hw) (by simpa using hfit) (oneCells_mem h1)
    simp [execOp, resolve, invoke, builtin, ha.sval hx, ha.sval hy, h]
  · rintro w u w' hw ⟨rfl, rfl⟩ aa ha
    exact (by unfold WPL at k; exact k aa _ ha (hw.srow hL))
end
end Go.Proofs.Ytakijgpoaeggnaa
namespace Go.Proofs.Ytakijgpoaeggnaa
open Go Sx
attribute [local irreducible] Exit.then Exit.inBlock bodyPost tcells
set_option maxRecDepth 100000 in
set_option maxHeartbeats 4000000 in
theorem c_deleteS (b cap k : Nat) (T : List (ETri DSurf)) (r : List Value) (W : World) (hk : k < T.length) (hcap : T.length ≤ cap) (hlen : (tcells eSurf T ++ r).length = cap * 11) (hm : cap ≤ maxLen) (h1 : oneCells (tcells eSurf T) = true)
    (hH : Holds W [(b, srow (tcells eSurf T ++ r) 62)]) (hn : SPiece.keys [(b, srow (tcells eSurf T ++ r) 62)] |>.Nodup) :
    SYieldsG Try.prog 167 #[.slice (some ⟨b, 0, none⟩) T.length cap, .int .i64 (k : Int), .int .i64 ((k : Int) + 1)] [(b, srow (tcells eSurf T ++ r) 62)]
      (fun u H' F => u = .slice (some ⟨b, 0, none⟩) (T.length - 1) cap ∧ (∃ r', H' = [(b, srow (tcells eSurf (T.eraseIdx k) ++ r') 62)] ∧ (tcells eSurf (T.eraseIdx k) ++ r').length = cap * 11) ∧ F = []) W := by
  have hcm : cap ≤ 9223372036854775807 := Nat.le_trans hm (by decide)
  have hcl := fun T' => tcells_length eSurf T'
  have hk11 : eSurf.k = 11 := rfl
  have hys : (tcells eSurf (T.drop (k + 1))).length = (T.length - (k + 1)) * 11 := by rw [hcl, List.length_drop]; rfl
  have hones : oneCells (tcells eSurf (T.drop (k + 1))) = true := by
    rw [← tcells_drop]
    have e := h1
    rw [← List.take_append_drop ((k + 1) * 11) (tcells eSurf T)] at e
    clear hlen hys
    revert e
    generalize (tcells eSurf T).take ((k + 1) * 11) = p
    generalize (tcells eSurf T).drop ((k + 1) * 11) = q
    intro e
    induction p with
    | nil => exact e
    | cons x p ih =>
      rw [List.cons_append] at e
      simp only [oneCells, Bool.and_eq_true] at e
      exact ih e.2
  have hn1 : ((k : Int) + 1).toNat = k + 1 := by omega
  have hA : (tcells eSurf T ++ r).take (k * 11) = tcells eSurf (T.take k) := by rw [List.take_append_of_le_length (by rw [hcl, hk11]; omega), tcells_take (by omega)]
  have hAl : (tcells eSurf (T.take k)).length = k * 11 := by rw [hcl, List.length_take, Nat.min_eq_left (by omega), hk11]
  have hX : ((tcells eSurf T ++ r).take (k * 11) ++ tcells eSurf (T.drop (k + 1)) ++ (tcells eSurf T ++ r).drop (k * 11 + (tcells eSurf (T.drop (k + 1))).length)).length = cap * 11 := by
    rw [hA, List.length_append, List.length_append, List.length_drop, hys, hAl, hlen]; omega
  have hn2 : (((k : Int).toNat + (T.length - ((k : Int) + 1).toNat) : Nat) : Int).toNat = T.length - 1 := by omega
  have hEl : (tcells eSurf (T.eraseIdx k)).length = (T.length - 1) * 11 := by rw [tcells_erase, List.length_append, hAl, hys]; omega
  have key : ∀ (o m' : Nat) (zs : List Value), o = (T.length - 1) * 11 → ((tcells eSurf T ++ r).take (k * 11) ++ tcells eSurf (T.drop (k + 1)) ++ (tcells eSurf T ++ r).drop (k * 11 + (tcells eSurf (T.drop (k + 1))).length)).take o ++ zs ++ ((tcells eSurf T ++ r).take (k * 11) ++ tcells eSurf (T.drop (k + 1)) ++ (tcells eSurf T ++ r).drop (k * 11 + (tcells eSurf (T.drop (k + 1))).length)).drop m' = tcells eSurf (T.eraseIdx k) ++ (zs ++ ((tcells eSurf T ++ r).take (k * 11) ++ tcells eSurf (T.drop (k + 1)) ++ (tcells eSurf T ++ r).drop (k * 11 + (tcells eSurf (T.drop (k + 1))).length)).drop m') := by
    intro o m' zs ho
    rw [List.append_assoc]
    refine congrArg (fun x => x ++ _) ?_
    rw [hA, ← tcells_erase, List.take_left' (by rw [hEl, ho])]
  refine SYieldsG.mk (s_enterM Try.func167 rfl Try.ntmps167 rfl hH hn ?_)
  repeat' (first | exact rfl | (apply kO; (first | exact ov_pure rfl | (apply kOBin; (first | exact aBin)) | (apply kOCall; (first | (apply kCallB; (first | exact aBlt | exact aLenR)))) | (apply kOLoad; (first | exact aLdF | exact aLdR)) | exact ov_fieldAddr rfl | (apply kOIdx; (first | exact aIdx)) | exact aRest | (apply kSlice; exact (ov_slice3 rfl rfl rfl rfl (by omega))) | (apply kSlice; exact (ov_sliceHi rfl rfl (by omega))) | (apply kSlice; exact (ov_sliceLK rfl rfl (by omega))) | (apply kSlice; exact (ov_sliceLH rfl rfl rfl (by omega))) | exact aNew | exact (ov_field1 (ft := 37) rfl rfl rfl rfl))) | (refine kN ?_; (first | (refine kCall ?_; (first | (refine kWApp ?_; (refine s_appendIn 0 (ys := tcells eSurf (T.drop (k + 1))) rfl rfl rfl hlen (by rw [hys]; congr 1) hones (fun w hw j q hj => ?_) (by omega) rfl ?_)) | apply s_step)) | (refine kStore ?_; (first | refine s_store1 _ rfl rfl gpA rfl (by rfl) ?_ | refine s_storeS _ rfl rfl gpA rfl rfl (by rfl) ?_ | refine s_storeS _ rfl rfl gpA rfl (ones_img oiA) (by rfl) ?_)) | refine s_boxS rfl rfl (fun b hb => ?_) | refine s_allocS rfl (fun b hb => ?_) | refine s_box1 rfl rfl rfl (fun b hb => ?_) | refine s_alloc1 rfl rfl (fun b hb => ?_) | (refine s_clear 0 rfl rfl rfl rfl ?_ (fun zs hz => ?_)) | refine s_buildSlice0 rfl (fun b hb => ?_) | refine s_buildSlice rfl rfl rfl rfl rfl (fun b hb => ?_) | apply s_step)) | (refine kG ?_; (first | refine s_gyes rfl rfl rfl ?_ | refine s_gno rfl rfl rfl rfl rfl ?_ | ((first | refine s_split_d rfl rfl (fun h => ?_) (fun h => ?_) | refine s_split_n rfl rfl (fun h => ?_) (fun h => ?_)) <;> (try (first | contradiction | (exfalso; omega)))) | refine s_split_nb rfl rfl (fun h => ?_) (fun h => ?_) | refine s_split rfl rfl (fun h => ?_) (fun h => ?_))) | (refine kS ?_; (first | refine h_exec rfl ?_ | refine h_take_nil rfl rfl rfl ?_ | refine h_take_pick rfl rfl rfl ?_ | refine h_nil ?_ | refine h_alt ?_ ?_ | apply h_take)) | (refine kBack ?_; (first | refine h_back_last rfl ?_ | refine h_backN rfl subA ?_)) | refine l_then ?_ | (refine kC ?_; (first | (refine kReg 5 ?_; refine c_regionSubN (SPlan.take 0 (SPlan.take 1 (SPlan.take 2 (SPlan.take 3 (SPlan.take 4 (SPlan.take 5 (SPlan.run 6 (SPlan.take 7 SPlan.done)))))))) none [false] rfl rfl rfl (by decide +kernel) ?_) | refine c_seq ?_ | refine c_regionN rfl ?_ | refine c_ret ?_ | (refine kCond ?_; (first | refine c_cond_t rfl ?_ | refine c_cond_f rfl ?_ | ((first | refine c_cond_d rfl (fun h => ?_) (fun h => ?_) | refine c_cond_n rfl (fun h => ?_) (fun h => ?_)) <;> (try (first | contradiction | (exfalso; omega)))) | refine c_cond_nb rfl (fun h => ?_) (fun h => ?_) | refine c_cond rfl (fun h => ?_) (fun h => ?_))) | refine c_block ?_ | refine c_skip ?_ | refine c_exit ?_ | refine c_regionQN rfl rfl (by decide +kernel) ?_)) | apply s_stepQ | (refine kQG ?_; (first | refine s_gyesQ rfl rfl rfl ?_ | refine s_gnoQ rfl rfl rfl rfl rfl ?_ | ((first | refine s_splitQ_d rfl rfl (fun h => ?_) (fun h => ?_) | refine s_splitQ_n rfl rfl (fun h => ?_) (fun h => ?_)) <;> (try (first | contradiction | (exfalso; omega)))) | refine s_splitQ_nb rfl rfl (fun h => ?_) (fun h => ?_) | refine s_splitQ rfl rfl (fun h => ?_) (fun h => ?_))) | refine lQ_then ?_ | refine lQ_ends ?_ | (refine kE ?_; (first | refine e_then_r ?_ | refine e_block_r ?_ | refine e_then_n ?_ | refine e_then_x ?_ | refine e_block_n ?_ | refine e_block_x ?_ | refine e_block_y rfl ?_)) | refine l_ends ?_)
  · have hjl := (List.getElem?_eq_some_iff.1 hj).1
    have e0 : offL cap 11 ((k : Int) + 1).toNat = (k + 1) * 11 := by rw [hn1]; exact offL_in (by omega)
    rw [e0, Addr.add_lit, Nat.zero_add]
    refine hw.captured (i := 0) rfl _ _ ?_
    rw [List.getElem?_append_left (by rw [hcl, hk11]; omega)]
    rw [← tcells_drop, List.getElem?_drop] at hj
    exact hj
  · rw [hn2, offL_in (show T.length - 1 < cap by omega)]
    show 0 + (T.length - 1) * 11 + ((T.length : Int).toNat - (T.length - 1)) * 11 ≤ _
    simp only [Int.toNat_natCast]
    rw [hX]; omega
  · have e0 : 0 + offL cap 11 (((k : Int).toNat + (T.length - ((k : Int) + 1).toNat) : Nat) : Int).toNat = (T.length - 1) * 11 := by rw [hn2, offL_in (show T.length - 1 < cap by omega), Nat.zero_add]
    refine s_leave1 rfl rfl (fun w hw => ⟨_, _, [], rfl, ⟨?_, ⟨_, congrArg (fun x => [(b, srow x 62)]) (key _ _ _ e0), ?_⟩, rfl⟩, SSt.lone hw⟩)
    · rw [show (k : Int).toNat + (T.length - ((k : Int) + 1).toNat) = T.length - 1 by omega]
    · rw [← key _ _ _ e0, List.length_append, List.length_append, List.length_take, List.length_drop, hX, hz, e0, hn2]
      simp only [Int.toNat_natCast]
      show min ((T.length - 1) * 11) (cap * 11) + (T.length - (T.length - 1)) * 11 + (cap * 11 - ((T.length - 1) * 11 + (T.length - (T.length - 1)) * 11)) = cap * 11
      omega
section
variable {n : Nat} {lo : SMut} {s : World} {E : SEnv} {L : SHeap} {d : Option Tmp} {ty : TypeId} {pos : String} {after : Array Edge} {g : Option (Nat × Bool)}
theorem ov_overlapsS {args : List Operand} {ts : Array TypeId} {b2 b o2 o m2 c2 m c : Nat} {x l : List Value} {T2 T : TypeId} (ha : svals E args = some [.slice (some ⟨b2, o2, none⟩) m2 c2, .slice (some ⟨b, o, none⟩) m c])
    (h2 : ∀ w, SSt lo s L w → w.heap[b2]? = some (srow x T2)) (h1 : ∀ w, SSt lo s L w → w.heap[b]? = some (srow l T)) (hne : b2 ≠ b) (hl : l.length ≠ 0) :
    SOpV Try.prog n lo s E L ⟨d, .call { callee := .value (.func 205), args := args.toArray, argTypes := ts }, ty, pos, after, g⟩ (.bool false) :=
  SOpV.of_run fun a hs w hw => by
    have e2 := h2 w hw
    have e1 := h1 w hw
    have hc : (callFunc 205 [Value.slice (some ⟨b2, o2, none⟩) m2 c2, .slice (some ⟨b, o, none⟩) m c].toArray).run Try.prog w = .ok (.value (.bool false)) w := by
      rw [run_callFunc_extern Try.func205 (by kernel_rfl) (by kernel_rfl) (by kernel_rfl) (e := Extern.SlicesOverlaps.overlaps #[24, 24] #[4]) (by kernel_rfl),
        Lib.run_overlaps_apart w 24 4 62 Try.underlying24 11 (fun w => srun_sizeOf w) ⟨b2, o2, none⟩ ⟨b, o, none⟩ m2 c2 m c hne T2 T x.length l.length (by simp [World.shape?, e2, srow]) (by simp [World.shape?, e1, srow]) hl (by simp [World.frozen?, e2, srow]) (by simp [World.frozen?, e2, srow])]
      rfl
    rw [← hs.svals ha] at hc
    simp [execOp, resolve, Act.eval, Deferred.ofValue, invoke, hc]
end
set_option maxRecDepth 100000 in
set_option maxHeartbeats 4000000 in
theorem c_insert0 (b b2 cap n : Nat) (xs r x : List Value) (T2 : TypeId) (W : World) (hxs : xs.length = n * 11) (hlen : (xs ++ r).length = cap * 11) (hcap : n + 1 ≤ cap) (hm : cap ≤ maxLen) (hx : x.length = 11) (h1 : oneCells xs = true) (h2 : oneCells x = true)
    (hne : b2 ≠ b) (hb2 : W.heap[b2]? = some (srow x T2)) (hH : Holds W [(b, srow (xs ++ r) 62)]) (hn : SPiece.keys [(b, srow (xs ++ r) 62)] |>.Nodup) :
    SYieldsG Try.prog 168 #[.slice (some ⟨b, 0, none⟩) n cap, .int .i64 0, .slice (some ⟨b2, 0, none⟩) 1 1] [(b, srow (xs ++ r) 62)]
      (fun u H' F => u = .slice (some ⟨b, 0, none⟩) (n + 1) cap ∧ (∃ r', H' = [(b, srow (x ++ xs ++ r') 62)] ∧ (x ++ xs ++ r').length = cap * 11) ∧ F = []) W := by
  have hcm : cap ≤ 9223372036854775807 := Nat.le_trans hm (by decide)
  have hlt := (Array.getElem?_eq_some_iff.1 hb2).1
  have hrd : ∀ {L : SHeap} {w : World}, SSt (SPiece.keys [(b, srow (xs ++ r) 62)]) W L w → w.heap[b2]? = some (srow x T2) := fun hw => (hw.kept.block b2 hlt (by simpa [SPiece.keys] using hne)).trans hb2
  have hrx : ∀ {L : SHeap} {w : World}, SSt (SPiece.keys [(b, srow (xs ++ r) 62)]) W L w → ∀ j q, x[j]? = some q → w.cell? ((⟨b2, 0, none⟩ : Addr).add j) = some q := fun hw j q hj => by
    rw [Addr.add_lit, Nat.zero_add]
    simp [World.cell?, hrd hw, srow, hj]
  have ho0 : offL cap 11 0 = 0 := by unfold offL; split <;> rfl
  have e1 : offL cap 11 (0 + ((1 : Nat) : Int)).toNat = 11 ∨ n = 0 := by
    by_cases h0 : n = 0
    · exact .inr h0
    · exact .inl (by rw [offL_in (show (0 + ((1 : Nat) : Int)).toNat < cap by omega)]; rfl)
  have hD : 0 < n → ((xs ++ r).take 11 ++ xs ++ (xs ++ r).drop (11 + xs.length)).length = cap * 11 := fun _ => by
    rw [List.length_append, List.length_append, List.length_take, List.length_drop, hlen, hxs]; omega
  have hDd : 0 < n → ((xs ++ r).take 11 ++ xs ++ (xs ++ r).drop (11 + xs.length)).drop 11 = xs ++ (xs ++ r).drop (11 + xs.length) := fun _ => by
    rw [List.append_assoc, List.drop_left' (by rw [List.length_take, hlen]; omega)]
  refine SYieldsG.mk (s_enterM Try.func168 rfl Try.ntmps168 rfl hH hn ?_)
  repeat' (first | exact rfl | (apply kO; (first | exact ov_pure rfl | (apply kOBin; (first | exact aBin)) | (apply kOCall; (first | (apply kCallB; (first | exact aBlt | exact aLenR)))) | (apply kOLoad; (first | exact aLdF | exact aLdR)) | exact ov_fieldAddr rfl | (apply kOIdx; (first | exact aIdx)) | exact aRest | exact (ov_cap rfl) | (apply kSlice; exact (ov_sliceHi rfl rfl (by omega))) | (apply kSlice; exact (ov_sliceLK rfl rfl (by omega))) | exact (ov_overlapsS rfl (fun w hw => hrd hw) (fun w hw => hw.holds (i := 0) rfl _ _ (List.mem_singleton.2 rfl)) hne (by omega)) | exact aNew | exact (ov_field1 (ft := 37) rfl rfl rfl rfl))) | (refine kN ?_; (first | (refine kCall ?_; (first | (refine kWApp ?_; (refine s_appendIn 0 (ys := x) rfl rfl rfl hlen (by rw [hx]) h2 (fun w hw => hrx hw) (by omega) rfl ?_)) | (refine s_copyK 0 (cs := xs) rfl rfl rfl (by rw [hxs]; refine congrArg (· * 11) ?_; show n = min _ _; omega) ?_ h1 (fun w hw => ?_) rfl ?_) | (refine s_copyK 0 (cs := x) rfl rfl rfl (by rw [hx]; show 11 = min _ _ * 11; omega) ?_ h2 (fun w hw => hrx hw) rfl ?_) | apply s_step)) | (refine kStore ?_; (first | refine s_store1 _ rfl rfl gpA rfl (by rfl) ?_ | refine s_storeS _ rfl rfl gpA rfl rfl (by rfl) ?_ | refine s_storeS _ rfl rfl gpA rfl (ones_img oiA) (by rfl) ?_)) | refine s_boxS rfl rfl (fun b hb => ?_) | refine s_allocS rfl (fun b hb => ?_) | refine s_box1 rfl rfl rfl (fun b hb => ?_) | refine s_alloc1 rfl rfl (fun b hb => ?_) | refine s_buildSlice0 rfl (fun b hb => ?_) | refine s_buildSlice rfl rfl rfl rfl rfl (fun b hb => ?_) | apply s_step)) | (refine kG ?_; (first | refine s_gyes rfl rfl rfl ?_ | refine s_gno rfl rfl rfl rfl rfl ?_ | ((first | refine s_split_d rfl rfl (fun h => ?_) (fun h => ?_) | refine s_split_n rfl rfl (fun h => ?_) (fun h => ?_)) <;> (try (first | contradiction | (exfalso; omega)))) | refine s_split_nb rfl rfl (fun h => ?_) (fun h => ?_) | refine s_split rfl rfl (fun h => ?_) (fun h => ?_))) | (refine kS ?_; (first | refine h_exec rfl ?_ | refine h_take_nil rfl rfl rfl ?_ | refine h_take_pick rfl rfl rfl ?_ | refine h_nil ?_ | refine h_alt ?_ ?_ | apply h_take)) | (refine kBack ?_; (first | refine h_back_last rfl ?_ | refine h_backN rfl subA ?_)) | refine l_then ?_ | (refine kC ?_; (first | (refine kReg 15 ?_; refine c_regionSubN (SPlan.take 0 (SPlan.take 1 (SPlan.take 2 (SPlan.take 3 (SPlan.take 4 (SPlan.take 5 (SPlan.take 6 (SPlan.take 7 (SPlan.run 8 SPlan.done))))))))) none [false] rfl rfl rfl (by decide +kernel) ?_) | refine c_seq ?_ | refine c_regionN rfl ?_ | refine c_ret ?_ | (refine kCond ?_; (first | refine c_cond_t rfl ?_ | refine c_cond_f rfl ?_ | ((first | refine c_cond_d rfl (fun h => ?_) (fun h => ?_) | refine c_cond_n rfl (fun h => ?_) (fun h => ?_)) <;> (try (first | contradiction | (exfalso; omega)))) | refine c_cond_nb rfl (fun h => ?_) (fun h => ?_) | refine c_cond rfl (fun h => ?_) (fun h => ?_))) | refine c_block ?_ | refine c_skip ?_ | refine c_exit ?_ | refine c_regionQN rfl rfl (by decide +kernel) ?_)) | apply s_stepQ | (refine kQG ?_; (first | refine s_gyesQ rfl rfl rfl ?_ | refine s_gnoQ rfl rfl rfl rfl rfl ?_ | ((first | refine s_splitQ_d rfl rfl (fun h => ?_) (fun h => ?_) | refine s_splitQ_n rfl rfl (fun h => ?_) (fun h => ?_)) <;> (try (first | contradiction | (exfalso; omega)))) | refine s_splitQ_nb rfl rfl (fun h => ?_) (fun h => ?_) | refine s_splitQ rfl rfl (fun h => ?_) (fun h => ?_))) | refine lQ_then ?_ | refine lQ_ends ?_ | (refine kE ?_; (first | refine e_then_r ?_ | refine e_block_r ?_ | refine e_then_n ?_ | refine e_then_x ?_ | refine e_block_n ?_ | refine e_block_x ?_ | refine e_block_y rfl ?_)) | refine l_ends ?_)
  · have hx0 : xs = [] := List.eq_nil_of_length_eq_zero (by rw [hxs]; omega)
    have hn0 : n = 0 := by omega
    subst hn0
    subst hx0
    refine s_leave1 rfl rfl (fun w hw => ⟨_, _, [], rfl, ⟨rfl, ⟨r.drop 11, ?_, ?_⟩, rfl⟩, SSt.lone hw⟩)
    · simp [hx]
    · simp only [List.nil_append, List.append_nil, List.length_append, List.length_drop, hx] at hlen ⊢; omega
  · rw [hlen, hxs, offL_in (show (0 + ((1 : Nat) : Int)).toNat < cap by omega)]; show 0 + 1 * 11 + n * 11 ≤ cap * 11; omega
  · intro j v hj
    rw [show (0 : Int).toNat = 0 from rfl, ho0, Addr.add_lit, Nat.zero_add]
    refine hw.captured (i := 0) rfl _ _ ?_
    rw [List.getElem?_append_left (List.getElem?_eq_some_iff.1 hj).1]
    simpa using hj
  · have e1 : offL cap 11 (0 + ((1 : Nat) : Int)).toNat = 11 := e1.resolve_right (by omega)
    rw [e1, show Int.toNat 0 = 0 from rfl, ho0, hx]; simp only [Nat.zero_add]; rw [hD (by omega)]; omega
  · have e1 : offL cap 11 (0 + ((1 : Nat) : Int)).toNat = 11 := e1.resolve_right (by omega)
    refine s_leave1 rfl rfl (fun w hw => ⟨_, _, [], rfl, ⟨?_, ⟨(xs ++ r).drop (11 + xs.length), ?_, ?_⟩, rfl⟩, SSt.lone hw⟩)
    · rw [show ((n : Int) + ((1 : Nat) : Int)).toNat = n + 1 by omega]
    · rw [e1, show Int.toNat 0 = 0 from rfl, ho0, hx]; simp only [Nat.zero_add, List.take_zero, List.nil_append]; rw [hDd (by omega), List.append_assoc]
    · rw [List.length_append, List.length_append, List.length_drop, hlen, hx, hxs]; omega
end Go.Proofs.Ytakijgpoaeggnaa
namespace Go.Proofs.Ytakijgpoaeggnaa
open Go Sx
attribute [local irreducible] Exit.then Exit.inBlock bodyPost tcells OInts OElems
def EdOut (bo : Nat) (s : DScene) (H' : SPiece) : Prop := ∃ v' H2, H' = [(bo, srow [.int .i64 s.W, .int .i64 s.H, .int .i64 s.Back, v'] 26)] ++ H2 ∧ OElems eSurf 62 v' s.ss H2
abbrev EdPre (bo : Nat) (s : DScene) (v : Value) (H : SPiece) : SPiece := [(bo, srow [.int .i64 s.W, .int .i64 s.H, .int .i64 s.Back, v] 26)] ++ H
set_option maxHeartbeats 4000000 in
theorem c_editedAdd (s : DScene) (e : DEdit) (v d : Value) (bo : Nat) (H : SPiece) (W : World) (hk : e.Kind = 0) (hlen : s.ss.length ≤ 6) (hv : OElems eSurf 62 v s.ss H) (hd : RInts W d e.buf.data) (hap : 0 < e.buf.data.length → Apart (EdPre bo s v H).keys d) (hl : e.buf.data.length ≤ 1000000000) (hH : Holds W (EdPre bo s v H)) (hn : (EdPre bo s v H).keys.Nodup) :
    SYieldsG Try.prog 105 #[.pointer (some ⟨bo, 0, none⟩), vEdit e d] (EdPre bo s v H) (fun u H' F => u = .bool true ∧ EdOut bo (edited s e) H' ∧ F = []) W := by
  rw [edited_add hk]
  have hvf := hv.form
  obtain ⟨va, vc, rfl⟩ := hvf
  refine SYieldsG.mk (s_enterM Try.func105 rfl Try.ntmps105 rfl hH hn ?_)
  refine cc_perm (L' := [[(bo, srow [.int .i64 s.W, .int .i64 s.H, .int .i64 s.Back, .slice va s.ss.length vc] 26)], H]) (by simp) ?_
  repeat' (first | exact rfl | (apply kO; (first | exact ov_pure rfl | (apply kOBin; (first | exact aBin)) | (apply kOCall; (first | (apply kCallB; (first | exact aBlt | exact aLenR)))) | (apply kOLoad; (first | exact aLdF | exact aLdR)) | exact ov_fieldAddr rfl | (apply kOIdx; (first | exact aIdx)) | exact aRest | exact aNew | exact (ov_field1 (ft := 37) rfl rfl rfl rfl))) | (refine kN ?_; (first | (refine kCall ?_; (first | (refine kWFn 96 ?_; (refine s_callF (fun u H => OImg u e.buf H) rfl (fun w hw => c_copyImage e.buf _ w (RInts.keepN hd hap hw) hl) rfl (fun u H hu => ?_); obtain ⟨d', rfl, hu⟩ := hu; have f1 := hu.form; obtain ⟨_, _, rfl⟩ := f1)) | (refine kWApp ?_; (refine s_appendE _ _ _ (el := eSurf) (a := added e) rfl rfl hv gpA gpA (show eSurf.own _ _ _ from hu) gpA rfl rfl (eSurf_ones (OInts.one (by assumption))) (by rw [scells_eq]; rfl) (by decide) (by omega) (by decide) rfl (fun v' H' hv' => ?_); have f1 := hv'.form; obtain ⟨ua, uc, rfl⟩ := f1)) | apply s_step)) | (refine kStore ?_; (first | refine s_store1 _ rfl rfl gpA rfl (by rfl) ?_ | refine s_storeS _ rfl rfl gpA rfl rfl (by rfl) ?_ | refine s_storeS _ rfl rfl gpA rfl (ones_img oiA) (by rfl) ?_)) | refine s_boxS rfl rfl (fun b hb => ?_) | refine s_allocS rfl (fun b hb => ?_) | refine s_box1 rfl rfl rfl (fun b hb => ?_) | refine s_alloc1 rfl rfl (fun b hb => ?_) | refine s_buildSlice0 rfl (fun b hb => ?_) | refine s_buildSlice rfl rfl rfl rfl rfl (fun b hb => ?_) | apply s_step)) | (refine kG ?_; (first | refine s_gyes rfl rfl rfl ?_ | refine s_gno rfl rfl rfl rfl rfl ?_ | ((first | refine s_split_d rfl rfl (fun h => ?_) (fun h => ?_) | refine s_split_n rfl rfl (fun h => ?_) (fun h => ?_)) <;> (try (first | contradiction | (exfalso; omega)))) | refine s_split_nb rfl rfl (fun h => ?_) (fun h => ?_) | refine s_split rfl rfl (fun h => ?_) (fun h => ?_))) | (refine kS ?_; (first | refine h_exec rfl ?_ | refine h_take_nil rfl rfl rfl ?_ | refine h_take_pick rfl rfl rfl ?_ | refine h_nil ?_ | refine h_alt ?_ ?_ | apply h_take)) | (refine kBack ?_; (first | refine h_back_last rfl ?_ | refine h_backN rfl subA ?_)) | refine l_then ?_ | (refine kC ?_; (first | (refine kReg 3 ?_; refine c_regionSubN (SPlan.take 0 (SPlan.take 1 (SPlan.take 2 (SPlan.take 3 (SPlan.take 5 (SPlan.take 6 (SPlan.take 7 (SPlan.take 8 (SPlan.take 9 (SPlan.take 10 (SPlan.take 11 (SPlan.take 12 ((SPlan.run 4 (SPlan.run 13 (SPlan.take 14 (SPlan.run 15 (SPlan.run 16 (SPlan.take 17 (SPlan.take 18 (SPlan.run 19 SPlan.done)))))))).alt (SPlan.run 13 (SPlan.take 14 ((SPlan.run 4 (SPlan.run 15 (SPlan.run 16 (SPlan.take 17 (SPlan.take 18 (SPlan.run 19 SPlan.done)))))).alt (SPlan.run 15 (SPlan.run 4 (SPlan.run 16 (SPlan.take 17 (SPlan.take 18 (SPlan.run 19 SPlan.done)))))))))))))))))))))) none [true, false, false] rfl rfl rfl (by decide +kernel) ?_) | refine c_seq ?_ | refine c_regionN rfl ?_ | refine c_ret ?_ | (refine kCond ?_; (first | refine c_cond_t rfl ?_ | refine c_cond_f rfl ?_ | ((first | refine c_cond_d rfl (fun h => ?_) (fun h => ?_) | refine c_cond_n rfl (fun h => ?_) (fun h => ?_)) <;> (try (first | contradiction | (exfalso; omega)))) | refine c_cond_nb rfl (fun h => ?_) (fun h => ?_) | refine c_cond rfl (fun h => ?_) (fun h => ?_))) | refine c_block ?_ | refine c_skip ?_ | refine c_exit ?_ | refine c_regionQN rfl rfl (by decide +kernel) ?_)) | apply s_stepQ | (refine kQG ?_; (first | refine s_gyesQ rfl rfl rfl ?_ | refine s_gnoQ rfl rfl rfl rfl rfl ?_ | ((first | refine s_splitQ_d rfl rfl (fun h => ?_) (fun h => ?_) | refine s_splitQ_n rfl rfl (fun h => ?_) (fun h => ?_)) <;> (try (first | contradiction | (exfalso; omega)))) | refine s_splitQ_nb rfl rfl (fun h => ?_) (fun h => ?_) | refine s_splitQ rfl rfl (fun h => ?_) (fun h => ?_))) | refine lQ_then ?_ | refine lQ_ends ?_ | (refine kE ?_; (first | refine e_then_r ?_ | refine e_block_r ?_ | refine e_then_n ?_ | refine e_then_x ?_ | refine e_block_n ?_ | refine e_block_x ?_ | refine e_block_y rfl ?_)) | refine l_ends ?_)
  all_goals first | (exact s_leave1 rfl rfl (fun w hw => ⟨_, [(bo, srow [.int .i64 s.W, .int .i64 s.H, .int .i64 s.Back, _] 26)] ++ H', [], rfl, ⟨rfl, ⟨_, H', rfl, hv'⟩, rfl⟩, SSt_two (hw.picks (by (repeat' first | exact Picks.nil | exact gp_hd | apply gp_tl | apply Picks.cons); done) (by rfl))⟩)) | (trace_state; sorry)
set_option maxHeartbeats 4000000 in
theorem c_editedBack (s : DScene) (e : DEdit) (v d : Value) (bo : Nat) (H : SPiece) (W : World) (hk : e.Kind = 10) (hv : OElems eSurf 62 v s.ss H) (hd : RInts W d e.buf.data) (hH : Holds W (EdPre bo s v H)) (hn : (EdPre bo s v H).keys.Nodup) :
    SYieldsG Try.prog 105 #[.pointer (some ⟨bo, 0, none⟩), vEdit e d] (EdPre bo s v H) (fun u H' F => u = .bool true ∧ EdOut bo (edited s e) H' ∧ F = []) W := by
  rw [edited_back hk]
  have hdf := hd.form
  obtain ⟨da, dc, rfl⟩ := hdf
  refine SYieldsG.mk (s_enterM Try.func105 rfl Try.ntmps105 rfl hH hn ?_)
  refine cc_perm (L' := [[(bo, srow [.int .i64 s.W, .int .i64 s.H, .int .i64 s.Back, v] 26)], H]) (by simp) ?_
  repeat' (first | exact rfl | (apply kO; (first | exact ov_pure rfl | (apply kOBin; (first | exact aBin)) | (apply kOCall; (first | (apply kCallB; (first | exact aBlt | exact aLenR)))) | (apply kOLoad; (first | exact aLdF | exact aLdR)) | exact ov_fieldAddr rfl | (apply kOIdx; (first | exact aIdx)) | exact aRest | exact aNew | exact (ov_field1 (ft := 37) rfl rfl rfl rfl))) | (refine kN ?_; (first | (refine kStore ?_; (first | refine s_store1 _ rfl rfl gpA rfl (by rfl) ?_ | refine s_storeS _ rfl rfl gpA rfl rfl (by rfl) ?_ | refine s_storeS _ rfl rfl gpA rfl (ones_img oiA) (by rfl) ?_)) | refine s_boxS rfl rfl (fun b hb => ?_) | refine s_allocS rfl (fun b hb => ?_) | refine s_box1 rfl rfl rfl (fun b hb => ?_) | refine s_alloc1 rfl rfl (fun b hb => ?_) | refine s_buildSlice0 rfl (fun b hb => ?_) | refine s_buildSlice rfl rfl rfl rfl rfl (fun b hb => ?_) | apply s_step)) | (refine kG ?_; (first | refine s_gyes rfl rfl rfl ?_ | refine s_gno rfl rfl rfl rfl rfl ?_ | ((first | refine s_split_d rfl rfl (fun h => ?_) (fun h => ?_) | refine s_split_n rfl rfl (fun h => ?_) (fun h => ?_)) <;> (try (first | contradiction | (exfalso; omega)))) | refine s_split_nb rfl rfl (fun h => ?_) (fun h => ?_) | refine s_split rfl rfl (fun h => ?_) (fun h => ?_))) | refine l_then ?_ | (refine kC ?_; (first | refine c_seq ?_ | refine c_regionN rfl ?_ | refine c_ret ?_ | (refine kCond ?_; (first | refine c_cond_t rfl ?_ | refine c_cond_f rfl ?_ | ((first | refine c_cond_d rfl (fun h => ?_) (fun h => ?_) | refine c_cond_n rfl (fun h => ?_) (fun h => ?_)) <;> (try (first | contradiction | (exfalso; omega)))) | refine c_cond_nb rfl (fun h => ?_) (fun h => ?_) | refine c_cond rfl (fun h => ?_) (fun h => ?_))) | refine c_block ?_ | refine c_skip ?_ | refine c_exit ?_ | refine c_regionQN rfl rfl (by decide +kernel) ?_)) | apply s_stepQ | (refine kQG ?_; (first | refine s_gyesQ rfl rfl rfl ?_ | refine s_gnoQ rfl rfl rfl rfl rfl ?_ | ((first | refine s_splitQ_d rfl rfl (fun h => ?_) (fun h => ?_) | refine s_splitQ_n rfl rfl (fun h => ?_) (fun h => ?_)) <;> (try (first | contradiction | (exfalso; omega)))) | refine s_splitQ_nb rfl rfl (fun h => ?_) (fun h => ?_) | refine s_splitQ rfl rfl (fun h => ?_) (fun h => ?_))) | refine lQ_then ?_ | refine lQ_ends ?_ | (refine kE ?_; (first | refine e_then_r ?_ | refine e_block_r ?_ | refine e_then_n ?_ | refine e_then_x ?_ | refine e_block_n ?_ | refine e_block_x ?_ | refine e_block_y rfl ?_)) | refine l_ends ?_)
  all_goals exact s_leave1 rfl rfl (fun w hw => ⟨_, [(bo, srow [.int .i64 s.W, .int .i64 s.H, .int .i64 e.A, _] 26)] ++ H, [], rfl, ⟨rfl, ⟨_, H, rfl, hv⟩, rfl⟩, SSt_two (hw.picks (by (repeat' first | exact Picks.nil | exact gp_hd | apply gp_tl | apply Picks.cons); done) (by rfl))⟩)
set_option maxHeartbeats 4000000 in
theorem c_editedNo (s : DScene) (e : DEdit) (v d : Value) (bo : Nat) (H : SPiece) (W : World) (hk : ¬ editable s e) (hv : OElems eSurf 62 v s.ss H) (hd : RInts W d e.buf.data) (hH : Holds W (EdPre bo s v H)) (hn : (EdPre bo s v H).keys.Nodup) :
    SYieldsG Try.prog 105 #[.pointer (some ⟨bo, 0, none⟩), vEdit e d] (EdPre bo s v H) (fun u H' F => u = .bool false ∧ EdOut bo s H' ∧ F = []) W := by
  have hdf := hd.form
  obtain ⟨da, dc, rfl⟩ := hdf
  have hvf := hv.form
  obtain ⟨va, vc, rfl⟩ := hvf
  unfold editable at hk
  have hil := index_lt s.ss e.Id
  obtain ⟨T, H0, G, hT, h1, h2, rfl⟩ := OElems.tri hv
  have hTl : T.length = s.ss.length := by rw [← hT, List.length_map]
  refine SYieldsG.mk (s_enterM Try.func105 rfl Try.ntmps105 rfl hH hn ?_)
  refine cc_perm (L' := [[(bo, srow [.int .i64 s.W, .int .i64 s.H, .int .i64 s.Back, .slice va s.ss.length vc] 26)], H0, tpiece T ++ G]) (by simp) ?_
  repeat' (first | exact rfl | (apply kO; (first | exact ov_pure rfl | (apply kOBin; (first | exact aBin)) | (apply kOCall; (first | (apply kCallF; (first | exact (ov_call rfl (fun w hw => c_isurfaceIndex s _ _ w (OElems.rs hv (holds_app (hfA hw) (hfA hw))))))) | (apply kCallB; (first | exact aBlt | exact aLenR)))) | (apply kOLoad; (first | exact aLdF | exact aLdR)) | exact ov_fieldAddr rfl | (apply kOIdx; (first | exact (ov_idxR (fun w hw => trow h1 (hfA hw)) rfl rfl (by omega)) | exact aIdx)) | exact aRest | exact aNew | exact (ov_field1 (ft := 37) rfl rfl rfl rfl))) | (refine kN ?_; (first | (refine kStore ?_; (first | refine s_store1 _ rfl rfl gpA rfl (by rfl) ?_ | refine s_storeS _ rfl rfl gpA rfl rfl (by rfl) ?_ | refine s_storeS _ rfl rfl gpA rfl (ones_img oiA) (by rfl) ?_)) | refine s_boxS rfl rfl (fun b hb => ?_) | refine s_allocS rfl (fun b hb => ?_) | refine s_box1 rfl rfl rfl (fun b hb => ?_) | refine s_alloc1 rfl rfl (fun b hb => ?_) | refine s_buildSlice0 rfl (fun b hb => ?_) | refine s_buildSlice rfl rfl rfl rfl rfl (fun b hb => ?_) | apply s_step)) | (refine kG ?_; (first | refine s_gyes rfl rfl rfl ?_ | refine s_gno rfl rfl rfl rfl rfl ?_ | ((first | refine s_split_d rfl rfl (fun h => ?_) (fun h => ?_) | refine s_split_n rfl rfl (fun h => ?_) (fun h => ?_)) <;> (try (first | contradiction | (exfalso; omega)))) | refine s_split_nb rfl rfl (fun h => ?_) (fun h => ?_) | refine s_split rfl rfl (fun h => ?_) (fun h => ?_))) | refine l_then ?_ | (refine kC ?_; (first | refine c_seq ?_ | refine c_regionN rfl ?_ | refine c_ret ?_ | (refine kCond ?_; (first | refine c_cond_t rfl ?_ | refine c_cond_f rfl ?_ | ((first | refine c_cond_d rfl (fun h => ?_) (fun h => ?_) | refine c_cond_n rfl (fun h => ?_) (fun h => ?_)) <;> (try (first | contradiction | (exfalso; omega)))) | refine c_cond_nb rfl (fun h => ?_) (fun h => ?_) | refine c_cond rfl (fun h => ?_) (fun h => ?_))) | refine c_block ?_ | refine c_skip ?_ | refine c_exit ?_ | refine c_regionQN rfl rfl (by decide +kernel) ?_)) | apply s_stepQ | (refine kQG ?_; (first | refine s_gyesQ rfl rfl rfl ?_ | refine s_gnoQ rfl rfl rfl rfl rfl ?_ | ((first | refine s_splitQ_d rfl rfl (fun h => ?_) (fun h => ?_) | refine s_splitQ_n rfl rfl (fun h => ?_) (fun h => ?_)) <;> (try (first | contradiction | (exfalso; omega)))) | refine s_splitQ_nb rfl rfl (fun h => ?_) (fun h => ?_) | refine s_splitQ rfl rfl (fun h => ?_) (fun h => ?_))) | refine lQ_then ?_ | refine lQ_ends ?_ | (refine kE ?_; (first | refine e_then_r ?_ | refine e_block_r ?_ | refine e_then_n ?_ | refine e_then_x ?_ | refine e_block_n ?_ | refine e_block_x ?_ | refine e_block_y rfl ?_)) | refine l_ends ?_)
  all_goals exact s_leave1 rfl rfl (fun w hw => ⟨_, [(bo, srow [.int .i64 s.W, .int .i64 s.H, .int .i64 s.Back, _] 26)] ++ (H0 ++ (tpiece T ++ G)), [], rfl, ⟨rfl, ⟨_, _, rfl, hv⟩, rfl⟩, SSt_three (hw.picks (by (repeat' first | exact Picks.nil | exact gp_hd | apply gp_tl | apply Picks.cons); done) (by rfl))⟩)
end Go.Proofs.Ytakijgpoaeggnaa
namespace Go.Proofs.Ytakijgpoaeggnaa
open Go Sx
attribute [local irreducible] Exit.then Exit.inBlock bodyPost tcells OInts OElems
structure EdAt (s : DScene) (k : Nat) (T : List (ETri DSurf)) (b0 cap : Nat) (r : List Value) : Prop where
  map : T.map (·.1) = s.ss
  kin : k < T.length
  own : ∀ t ∈ T, eSurf.own t.2.1 t.1 t.2.2
  len : (tcells eSurf T ++ r).length = cap * 11
  cap1 : T.length ≤ cap
  cap2 : cap ≤ maxLen
theorem EdAt.fst {s : DScene} {k : Nat} {T : List (ETri DSurf)} {b0 cap : Nat} {r : List Value} (h : EdAt s k T b0 cap r) : (T.getD k dT).1 = s.ss.getD k default := by rw [getT_fst, h.map]
theorem EdAt.vec {s : DScene} {k : Nat} {T : List (ETri DSurf)} {b0 cap : Nat} {r : List Value} (h : EdAt s k T b0 cap r) : OVec eSurf.k 62 (.slice (some ⟨b0, 0, none⟩) T.length cap) T.length (tcells eSurf T) [(b0, srow (tcells eSurf T ++ r) 62)] :=
  OVec.blk b0 T.length cap (tcells eSurf T) r (tcells_length _ _) h.len h.cap1 h.cap2
theorem EdAt.elems {s : DScene} {k : Nat} {T : List (ETri DSurf)} {b0 cap : Nat} {r : List Value} {G : SPiece} (h : EdAt s k T b0 cap r) : OElems eSurf 62 (.slice (some ⟨b0, 0, none⟩) T.length cap) s.ss ([(b0, srow (tcells eSurf T ++ r) 62)] ++ (tpiece T ++ G)) := by
  have := OElems.ofTri (G := G) h.vec h.own
  rw [h.map] at this; exact this
theorem EdAt.turn {s : DScene} {k : Nat} {T : List (ETri DSurf)} {b0 cap : Nat} {r : List Value} {G : SPiece} (h : EdAt s k T b0 cap r) (a' : DSurf) (he : a'.buf = (s.ss.getD k default).buf) :
    OElems eSurf 62 (.slice (some ⟨b0, 0, none⟩) T.length cap) (s.ss.set k a') ([(b0, srow (tcells eSurf (T.set k (a', (T.getD k dT).2.1, (T.getD k dT).2.2)) ++ r) 62)] ++ (tpiece T ++ G)) := by
  have hT : (T.set k (a', (T.getD k dT).2.1, (T.getD k dT).2.2)).length = T.length := List.length_set
  have hl := tcells_length eSurf (T.set k (a', (T.getD k dT).2.1, (T.getD k dT).2.2))
  have h0 := tcells_length eSurf T
  have ho := h.own _ (getT_mem h.kin)
  rw [h.fst] at ho
  have ho' : eSurf.own (T.getD k dT).2.1 a' (T.getD k dT).2.2 := by
    show OInts 3 _ a'.buf.data _
    rw [he]; exact ho
  have := OElems.ofTri (e := eSurf) (U := 62) (v := .slice (some ⟨b0, 0, none⟩) T.length cap) (T := T.set k (a', (T.getD k dT).2.1, (T.getD k dT).2.2)) (H0 := [(b0, srow (tcells eSurf (T.set k (a', (T.getD k dT).2.1, (T.getD k dT).2.2)) ++ r) 62)]) (G := G)
    (by rw [hT]; exact OVec.blk b0 T.length cap _ r (by rw [hl, hT]) (by have := h.len; rw [List.length_append] at this ⊢; rw [hl, hT, ← h0]; exact this) h.cap1 h.cap2) (own_set h.own ho')
  rw [map_setT, h.map, tpiece_set h.kin] at this
  exact this
theorem edited_turn {s : DScene} {e : DEdit} {k : Nat} (hk : e.Kind ≠ 0 ∧ e.Kind ≠ 10 ∧ e.Kind ≠ 1 ∧ e.Kind ≠ 3 ∧ e.Kind ≠ 4) (hi : surfaceIndex s.ss e.Id = (k : Int)) : edited s e = { s with ss := s.ss.set k (touched (s.ss.getD k default) e) } := by
  rw [edited_k ⟨hk.1, hk.2.1⟩, editK_set hk.2.2, hi, Int.toNat_natCast]
abbrev EdIn (bo b0 cap : Nat) (s : DScene) (T : List (ETri DSurf)) (r : List Value) (G : SPiece) : SPiece := EdPre bo s (.slice (some ⟨b0, 0, none⟩) T.length cap) ([(b0, srow (tcells eSurf T ++ r) 62)] ++ (tpiece T ++ G))
set_option maxHeartbeats 4000000 in
theorem c_editedTurn (s : DScene) (e : DEdit) (d : Value) (bo b0 cap k : Nat) (T : List (ETri DSurf)) (r : List Value) (G : SPiece) (W : World) (hat : EdAt s k T b0 cap r) (hk : e.Kind = 2 ∨ (6 ≤ e.Kind ∧ e.Kind ≤ 9)) (hi : surfaceIndex s.ss e.Id = (k : Int)) (hd : RInts W d e.buf.data)
    (hH : Holds W (EdIn bo b0 cap s T r G)) (hn : (EdIn bo b0 cap s T r G).keys.Nodup) :
    SYieldsG Try.prog 105 #[.pointer (some ⟨bo, 0, none⟩), vEdit e d] (EdIn bo b0 cap s T r G) (fun u H' F => u = .bool true ∧ EdOut bo (edited s e) H' ∧ F = []) W := by
  rw [edited_turn (by omega) hi]
  have hdf := hd.form
  obtain ⟨da, dc, rfl⟩ := hdf
  have hcap := hat.cap1
  have hkin := hat.kin
  have hlen := hat.len
  have hidx : ∀ w, RS eSurf w (.slice (some ⟨b0, 0, none⟩) T.length cap) s.ss → SYields Try.prog 40 #[vScene s (.slice (some ⟨b0, 0, none⟩) T.length cap), .int .i64 e.Id] (.int .i64 (k : Int)) w := fun w h => by rw [← hi]; exact c_isurfaceIndex s _ _ w h
  have hset := fun (o : Nat) (u : Value) (a' : DSurf) (ho : o < 11) (he : (eSurf.cells (s.ss.getD k default) (T.getD k dT).2.1).set o u = eSurf.cells a' (T.getD k dT).2.1) => tcells_set (r := r) hkin ho (by rw [hat.fst]; exact he)
  refine SYieldsG.mk (s_enterM Try.func105 rfl Try.ntmps105 rfl hH hn ?_)
  refine cc_perm (L' := [[(bo, srow [.int .i64 s.W, .int .i64 s.H, .int .i64 s.Back, .slice (some ⟨b0, 0, none⟩) T.length cap] 26)], [(b0, srow (tcells eSurf T ++ r) 62)], tpiece T ++ G]) (by simp) ?_
  repeat' (first | exact rfl | (apply kO; (first | exact ov_pure rfl | (apply kOBin; (first | exact aBin)) | (apply kOCall; (first | (apply kCallF; (first | exact (ov_call rfl (fun w hw => hidx w (OElems.rs hat.elems (holds_app (hfA hw) (hfA hw))))))) | (apply kCallB; (first | exact aBlt | exact aLenR)))) | (apply kOLoad; (first | exact aLdF | exact aLdR)) | exact ov_fieldAddr rfl | (apply kOIdx; (first | exact (ov_indexAddr rfl rfl (by omega)) | exact aIdx)) | exact aRest | exact aNew | exact (ov_field1 (ft := 37) rfl rfl rfl rfl))) | (refine kN ?_; (first | (refine kStore ?_; (first | (refine s_setR _ rfl rfl gpA rfl (by (try simp only [List.length_set]); rw [hlen]; omega) ?_) | refine s_store1 _ rfl rfl gpA rfl (by rfl) ?_ | refine s_storeS _ rfl rfl gpA rfl rfl (by rfl) ?_ | refine s_storeS _ rfl rfl gpA rfl (ones_img oiA) (by rfl) ?_)) | refine s_boxS rfl rfl (fun b hb => ?_) | refine s_allocS rfl (fun b hb => ?_) | refine s_box1 rfl rfl rfl (fun b hb => ?_) | refine s_alloc1 rfl rfl (fun b hb => ?_) | refine s_buildSlice0 rfl (fun b hb => ?_) | refine s_buildSlice rfl rfl rfl rfl rfl (fun b hb => ?_) | apply s_step)) | (refine kG ?_; (first | refine s_gyes rfl rfl rfl ?_ | refine s_gno rfl rfl rfl rfl rfl ?_ | ((first | refine s_split_d rfl rfl (fun h => ?_) (fun h => ?_) | refine s_split_n rfl rfl (fun h => ?_) (fun h => ?_)) <;> (try (first | contradiction | (exfalso; omega)))) | refine s_split_nb rfl rfl (fun h => ?_) (fun h => ?_) | refine s_split rfl rfl (fun h => ?_) (fun h => ?_))) | (refine kS ?_; (first | refine h_exec rfl ?_ | refine h_take_nil rfl rfl rfl ?_ | refine h_take_pick rfl rfl rfl ?_ | refine h_nil ?_ | refine h_alt ?_ ?_ | apply h_take)) | (refine kBack ?_; (first | refine h_back_last rfl ?_ | refine h_backN rfl subA ?_)) | refine l_then ?_ | (refine kC ?_; (first | (refine kReg 17 ?_; refine c_regionSubN (SPlan.take 0 (SPlan.take 1 (SPlan.take 2 (SPlan.take 3 (SPlan.take 4 (SPlan.take 5 (SPlan.take 6 (SPlan.take 7 (SPlan.run 8 (SPlan.take 9 (SPlan.take 10 (SPlan.run 11 SPlan.done)))))))))))) none [true, true, false, true] rfl rfl rfl (by decide +kernel) ?_) | (refine kReg 31 ?_; refine c_regionSubN (SPlan.take 0 (SPlan.take 1 (SPlan.take 2 (SPlan.take 3 (SPlan.take 4 (SPlan.take 5 (SPlan.take 6 (SPlan.take 7 (SPlan.run 8 (SPlan.take 9 (SPlan.take 10 (SPlan.run 11 SPlan.done)))))))))))) none [true, true, false, true] rfl rfl rfl (by decide +kernel) ?_) | refine c_seq ?_ | refine c_regionN rfl ?_ | refine c_ret ?_ | (refine kCond ?_; (first | refine c_cond_t rfl ?_ | refine c_cond_f rfl ?_ | ((first | refine c_cond_d rfl (fun h => ?_) (fun h => ?_) | refine c_cond_n rfl (fun h => ?_) (fun h => ?_)) <;> (try (first | contradiction | (exfalso; omega)))) | refine c_cond_nb rfl (fun h => ?_) (fun h => ?_) | refine c_cond rfl (fun h => ?_) (fun h => ?_))) | refine c_block ?_ | refine c_skip ?_ | refine c_exit ?_ | refine c_regionQN rfl rfl (by decide +kernel) ?_)) | apply s_stepQ | (refine kQG ?_; (first | refine s_gyesQ rfl rfl rfl ?_ | refine s_gnoQ rfl rfl rfl rfl rfl ?_ | ((first | refine s_splitQ_d rfl rfl (fun h => ?_) (fun h => ?_) | refine s_splitQ_n rfl rfl (fun h => ?_) (fun h => ?_)) <;> (try (first | contradiction | (exfalso; omega)))) | refine s_splitQ_nb rfl rfl (fun h => ?_) (fun h => ?_) | refine s_splitQ rfl rfl (fun h => ?_) (fun h => ?_))) | refine lQ_then ?_ | refine lQ_ends ?_ | (refine kE ?_; (first | refine e_then_r ?_ | refine e_block_r ?_ | refine e_then_n ?_ | refine e_then_x ?_ | refine e_block_n ?_ | refine e_block_x ?_ | refine e_block_y rfl ?_)) | refine l_ends ?_)
  · have ht : touched (s.ss.getD k default) e = { (s.ss.getD k default) with X := e.A, Y := e.B } := by unfold touched; rw [if_pos (by omega)]
    have hq := tcells_set2 (r := r) (o := 1) (o2 := 2) (u := .int .i64 e.A) (u2 := .int .i64 e.B) (a' := { (s.ss.getD k default) with X := e.A, Y := e.B }) hkin (by omega) (by omega) (by rw [hat.fst]; rfl)
    rw [ht]
    refine s_leave1 rfl rfl (fun w hw => ?_)
    have hw2 : SSt _ _ [[(bo, srow _ 26)], [(b0, srow _ 62)], tpiece T ++ G] w := hw.picks (by (repeat' first | exact Picks.nil | exact gp_hd | apply gp_tl | apply Picks.cons); done) (by rfl)
    simp only [Nat.zero_add, Int.toNat_natCast] at hw2
    rw [hq] at hw2
    exact ⟨_, _, [], rfl, ⟨rfl, ⟨_, _, rfl, EdAt.turn hat _ rfl⟩, rfl⟩, SSt_three hw2⟩
  · have ht : touched (s.ss.getD k default) e = { (s.ss.getD k default) with Alpha := e.A } := by unfold touched; rw [if_neg (by omega)]; rw [if_neg (by omega)]; rw [if_pos (by omega)]
    have hq := hset 5 (.int .i64 e.A) { (s.ss.getD k default) with Alpha := e.A } (by omega) rfl
    rw [ht]
    refine s_leave1 rfl rfl (fun w hw => ?_)
    have hw2 : SSt _ _ [[(bo, srow _ 26)], [(b0, srow _ 62)], tpiece T ++ G] w := hw.picks (by (repeat' first | exact Picks.nil | exact gp_hd | apply gp_tl | apply Picks.cons); done) (by rfl)
    simp only [Nat.zero_add, Int.toNat_natCast] at hw2
    rw [hq] at hw2
    exact ⟨_, _, [], rfl, ⟨rfl, ⟨_, _, rfl, EdAt.turn hat _ rfl⟩, rfl⟩, SSt_three hw2⟩
  · have ht : touched (s.ss.getD k default) e = { (s.ss.getD k default) with Orient := e.A } := by unfold touched; rw [if_neg (by omega)]; rw [if_neg (by omega)]; rw [if_neg (by omega)]; rw [if_pos (by omega)]
    have hq := hset 6 (.int .i64 e.A) { (s.ss.getD k default) with Orient := e.A } (by omega) rfl
    rw [ht]
    refine s_leave1 rfl rfl (fun w hw => ?_)
    have hw2 : SSt _ _ [[(bo, srow _ 26)], [(b0, srow _ 62)], tpiece T ++ G] w := hw.picks (by (repeat' first | exact Picks.nil | exact gp_hd | apply gp_tl | apply Picks.cons); done) (by rfl)
    simp only [Nat.zero_add, Int.toNat_natCast] at hw2
    rw [hq] at hw2
    exact ⟨_, _, [], rfl, ⟨rfl, ⟨_, _, rfl, EdAt.turn hat _ rfl⟩, rfl⟩, SSt_three hw2⟩
  · have ht : touched (s.ss.getD k default) e = { (s.ss.getD k default) with W := e.A, H := e.B } := by unfold touched; rw [if_neg (by omega)]; rw [if_neg (by omega)]; rw [if_neg (by omega)]; rw [if_neg (by omega)]; rw [if_pos (by omega)]
    have hq := tcells_set2 (r := r) (o := 3) (o2 := 4) (u := .int .i64 e.A) (u2 := .int .i64 e.B) (a' := { (s.ss.getD k default) with W := e.A, H := e.B }) hkin (by omega) (by omega) (by rw [hat.fst]; rfl)
    rw [ht]
    refine s_leave1 rfl rfl (fun w hw => ?_)
    have hw2 : SSt _ _ [[(bo, srow _ 26)], [(b0, srow _ 62)], tpiece T ++ G] w := hw.picks (by (repeat' first | exact Picks.nil | exact gp_hd | apply gp_tl | apply Picks.cons); done) (by rfl)
    simp only [Nat.zero_add, Int.toNat_natCast] at hw2
    rw [hq] at hw2
    exact ⟨_, _, [], rfl, ⟨rfl, ⟨_, _, rfl, EdAt.turn hat _ rfl⟩, rfl⟩, SSt_three hw2⟩
  · have ht : touched (s.ss.getD k default) e = { (s.ss.getD k default) with Visible := decide (e.A = 1) } := by unfold touched; rw [if_neg (by omega), if_neg (by omega), if_neg (by omega), if_neg (by omega), if_neg (by omega)]
    have hq := hset 7 (.bool (decide (e.A = 1))) { (s.ss.getD k default) with Visible := decide (e.A = 1) } (by omega) rfl
    rw [ht]
    refine s_leave1 rfl rfl (fun w hw => ?_)
    have hw2 : SSt _ _ [[(bo, srow _ 26)], [(b0, srow _ 62)], tpiece T ++ G] w := hw.picks (by (repeat' first | exact Picks.nil | exact gp_hd | apply gp_tl | apply Picks.cons); done) (by rfl)
    simp only [Nat.zero_add, Int.toNat_natCast] at hw2
    rw [hq] at hw2
    exact ⟨_, _, [], rfl, ⟨rfl, ⟨_, _, rfl, EdAt.turn hat _ rfl⟩, rfl⟩, SSt_three hw2⟩
end Go.Proofs.Ytakijgpoaeggnaa
namespace Go.Proofs.Ytakijgpoaeggnaa
open Go Sx
attribute [local irreducible] Exit.then Exit.inBlock bodyPost tcells OInts OElems
theorem T_piece {T : List (ETri DSurf)} {k : Nat} (h : k < T.length) : tpiece T = tpiece (T.take k) ++ ((T.getD k dT).2.2 ++ tpiece (T.drop (k + 1))) := by
  conv => lhs; rw [T_cut h]
  rw [tpiece_append, tpiece_cons]
theorem EdAt.erase {s : DScene} {k : Nat} {T : List (ETri DSurf)} {b0 cap : Nat} {r r' : List Value} {G : SPiece} (h : EdAt s k T b0 cap r) (hr : (tcells eSurf (T.eraseIdx k) ++ r').length = cap * 11) :
    OElems eSurf 62 (.slice (some ⟨b0, 0, none⟩) (T.length - 1) cap) (s.ss.eraseIdx k) ([(b0, srow (tcells eSurf (T.eraseIdx k) ++ r') 62)] ++ (tpiece (T.eraseIdx k) ++ ((T.getD k dT).2.2 ++ G))) := by
  have hl : (T.eraseIdx k).length = T.length - 1 := List.length_eraseIdx_of_lt h.kin
  have := OElems.ofTri (e := eSurf) (U := 62) (v := .slice (some ⟨b0, 0, none⟩) (T.length - 1) cap) (T := T.eraseIdx k) (H0 := [(b0, srow (tcells eSurf (T.eraseIdx k) ++ r') 62)]) (G := (T.getD k dT).2.2 ++ G)
    (by rw [hl]; exact OVec.blk b0 (T.length - 1) cap _ r' (by rw [tcells_length, hl]) hr (by have := h.cap1; omega) h.cap2) (fun t ht => h.own t (List.mem_of_mem_eraseIdx ht))
  rw [map_eraseIdx', h.map] at this
  exact this
theorem EdAt.raise {s : DScene} {k : Nat} {T : List (ETri DSurf)} {b0 cap : Nat} {r r' : List Value} {G : SPiece} (h : EdAt s k T b0 cap r) (hr : (tcells eSurf (T.eraseIdx k ++ [T.getD k dT]) ++ r').length = cap * 11) :
    OElems eSurf 62 (.slice (some ⟨b0, 0, none⟩) T.length cap) (s.ss.eraseIdx k ++ [s.ss.getD k default]) ([(b0, srow (tcells eSurf (T.eraseIdx k ++ [T.getD k dT]) ++ r') 62)] ++ (tpiece (T.eraseIdx k ++ [T.getD k dT]) ++ G)) := by
  have hkin := h.kin
  have hl : (T.eraseIdx k ++ [T.getD k dT]).length = T.length := by rw [List.length_append, List.length_eraseIdx_of_lt h.kin]; simp; omega
  have := OElems.ofTri (e := eSurf) (U := 62) (v := .slice (some ⟨b0, 0, none⟩) T.length cap) (T := T.eraseIdx k ++ [T.getD k dT]) (H0 := [(b0, srow (tcells eSurf (T.eraseIdx k ++ [T.getD k dT]) ++ r') 62)]) (G := G)
    (by rw [hl]; exact OVec.blk b0 T.length cap _ r' (by rw [tcells_length, hl]) hr h.cap1 h.cap2) (fun t ht => by
      rcases List.mem_append.1 ht with ht | ht
      · exact h.own t (List.mem_of_mem_eraseIdx ht)
      · rw [List.mem_singleton] at ht; rw [ht]; exact h.own _ (getT_mem h.kin))
  rw [List.map_append, map_eraseIdx', h.map] at this
  rw [← h.fst]; exact this
theorem EdAt.lower {s : DScene} {k : Nat} {T : List (ETri DSurf)} {b0 cap : Nat} {r r' : List Value} {G : SPiece} (h : EdAt s k T b0 cap r) (hr : (tcells eSurf (T.getD k dT :: T.eraseIdx k) ++ r').length = cap * 11) :
    OElems eSurf 62 (.slice (some ⟨b0, 0, none⟩) T.length cap) (s.ss.getD k default :: s.ss.eraseIdx k) ([(b0, srow (tcells eSurf (T.getD k dT :: T.eraseIdx k) ++ r') 62)] ++ (tpiece (T.getD k dT :: T.eraseIdx k) ++ G)) := by
  have hkin := h.kin
  have hl : (T.getD k dT :: T.eraseIdx k).length = T.length := by rw [List.length_cons, List.length_eraseIdx_of_lt h.kin]; omega
  have := OElems.ofTri (e := eSurf) (U := 62) (v := .slice (some ⟨b0, 0, none⟩) T.length cap) (T := T.getD k dT :: T.eraseIdx k) (H0 := [(b0, srow (tcells eSurf (T.getD k dT :: T.eraseIdx k) ++ r') 62)]) (G := G)
    (by rw [hl]; exact OVec.blk b0 T.length cap _ r' (by rw [tcells_length, hl]) hr h.cap1 h.cap2) (fun t ht => by
      rcases List.mem_cons.1 ht with ht | ht
      · rw [ht]; exact h.own _ (getT_mem h.kin)
      · exact h.own t (List.mem_of_mem_eraseIdx ht))
  rw [List.map_cons, map_eraseIdx', h.map] at this
  rw [← h.fst]; exact this
theorem EdAt.buffer {s : DScene} {k : Nat} {T : List (ETri DSurf)} {b0 cap : Nat} {r : List Value} {G Hc : SPiece} {i : DImg} {d' : Value} (h : EdAt s k T b0 cap r) (ho : OInts 3 d' i.data Hc) :
    OElems eSurf 62 (.slice (some ⟨b0, 0, none⟩) T.length cap) (s.ss.set k { s.ss.getD k default with buf := i }) ([(b0, srow (tcells eSurf (T.set k ({ s.ss.getD k default with buf := i }, d', Hc)) ++ r) 62)] ++ (tpiece (T.set k ({ s.ss.getD k default with buf := i }, d', Hc)) ++ ((T.getD k dT).2.2 ++ G))) := by
  have hT : (T.set k ({ s.ss.getD k default with buf := i }, d', Hc)).length = T.length := List.length_set
  have hl := tcells_length eSurf (T.set k ({ s.ss.getD k default with buf := i }, d', Hc))
  have h0 := tcells_length eSurf T
  have := OElems.ofTri (e := eSurf) (U := 62) (v := .slice (some ⟨b0, 0, none⟩) T.length cap) (T := T.set k ({ s.ss.getD k default with buf := i }, d', Hc)) (H0 := [(b0, srow (tcells eSurf (T.set k ({ s.ss.getD k default with buf := i }, d', Hc)) ++ r) 62)]) (G := (T.getD k dT).2.2 ++ G)
    (by rw [hT]; exact OVec.blk b0 T.length cap _ r (by rw [hl, hT]) (by have := h.len; rw [List.length_append] at this ⊢; rw [hl, hT, ← h0]; exact this) h.cap1 h.cap2) (own_set h.own ho)
  rw [map_setT, h.map] at this
  exact this
theorem perm_out {α : Type} (A t D G : List α) : ((A ++ (t ++ D)) ++ G).Perm ((A ++ D) ++ (t ++ G)) := by
  simp only [List.append_assoc]
  exact List.Perm.append_left _ ((List.perm_append_comm_assoc t D G))
theorem perm_erase {T : List (ETri DSurf)} {k : Nat} (h : k < T.length) (G : SPiece) : (tpiece T ++ G).Perm (tpiece (T.eraseIdx k) ++ ((T.getD k dT).2.2 ++ G)) := by
  rw [T_piece h, List.eraseIdx_eq_take_drop_succ, tpiece_append]
  exact perm_out _ _ _ _
theorem perm_raise {T : List (ETri DSurf)} {k : Nat} (h : k < T.length) (G : SPiece) : (tpiece T ++ G).Perm (tpiece (T.eraseIdx k ++ [T.getD k dT]) ++ G) := by
  refine (perm_erase h G).trans ?_
  rw [tpiece_append, tpiece_one, List.append_assoc]
theorem perm_lower {T : List (ETri DSurf)} {k : Nat} (h : k < T.length) (G : SPiece) : (tpiece T ++ G).Perm (tpiece (T.getD k dT :: T.eraseIdx k) ++ G) := by
  refine (perm_erase h G).trans ?_
  rw [tpiece_cons, List.append_assoc]
  exact List.perm_append_comm_assoc _ _ _
theorem perm_buf {T : List (ETri DSurf)} {k : Nat} (h : k < T.length) (a' : DSurf) (d' : Value) (Hc G : SPiece) : (Hc ++ (tpiece T ++ G)).Perm (tpiece (T.set k (a', d', Hc)) ++ ((T.getD k dT).2.2 ++ G)) := by
  rw [T_set h, tpiece_append, tpiece_cons, T_piece h]
  have e := perm_out (tpiece (T.take k)) (T.getD k dT).2.2 (tpiece (T.drop (k + 1))) G
  refine (List.Perm.append_left _ e).trans ?_
  simp only [List.append_assoc]
  exact List.perm_append_comm_assoc _ _ _
theorem SSt_last {lo : SMut} {s w : World} {A B C D : SPiece} (h : SSt lo s [A, B, C] w) (hp : C.Perm D) : SSt lo s [A ++ (B ++ D), []] w := h.perm (by
  simp only [List.flatten_cons, List.flatten_nil, List.append_nil]
  exact List.Perm.append_left _ (List.Perm.append_left _ hp))
theorem SSt_last4 {lo : SMut} {s w : World} {A B C C2 D : SPiece} (h : SSt lo s [A, B, C, C2] w) (hp : (C ++ C2).Perm D) : SSt lo s [A ++ (B ++ D), []] w := h.perm (by
  simp only [List.flatten_cons, List.flatten_nil, List.append_nil]
  exact List.Perm.append_left _ (List.Perm.append_left _ hp))
set_option maxHeartbeats 4000000 in
theorem c_editedBuf (s : DScene) (e : DEdit) (d : Value) (bo b0 cap k : Nat) (T : List (ETri DSurf)) (r : List Value) (G : SPiece) (W : World) (hat : EdAt s k T b0 cap r) (hk : e.Kind = 5) (hi : surfaceIndex s.ss e.Id = (k : Int)) (hd : RInts W d e.buf.data) (hap : 0 < e.buf.data.length → Apart (EdIn bo b0 cap s T r G).keys d) (hl : e.buf.data.length ≤ 1000000000)
    (hH : Holds W (EdIn bo b0 cap s T r G)) (hn : (EdIn bo b0 cap s T r G).keys.Nodup) :
    SYieldsG Try.prog 105 #[.pointer (some ⟨bo, 0, none⟩), vEdit e d] (EdIn bo b0 cap s T r G) (fun u H' F => u = .bool true ∧ EdOut bo (edited s e) H' ∧ F = []) W := by
  have hes : edited s e = { s with ss := s.ss.set k { s.ss.getD k default with buf := e.buf } } := by
    rw [edited_k ⟨by omega, by omega⟩, editK_set (by omega), hi, Int.toNat_natCast]; unfold touched; rw [if_neg (by omega), if_pos hk]
  rw [hes]
  have hcap := hat.cap1
  have hkin := hat.kin
  have hlen := hat.len
  have hidx : ∀ w, RS eSurf w (.slice (some ⟨b0, 0, none⟩) T.length cap) s.ss → SYields Try.prog 40 #[vScene s (.slice (some ⟨b0, 0, none⟩) T.length cap), .int .i64 e.Id] (.int .i64 (k : Int)) w := fun w h => by rw [← hi]; exact c_isurfaceIndex s _ _ w h
  refine SYieldsG.mk (s_enterM Try.func105 rfl Try.ntmps105 rfl hH hn ?_)
  refine cc_perm (L' := [[(bo, srow [.int .i64 s.W, .int .i64 s.H, .int .i64 s.Back, .slice (some ⟨b0, 0, none⟩) T.length cap] 26)], [(b0, srow (tcells eSurf T ++ r) 62)], tpiece T ++ G]) (by simp) ?_
  repeat' (first | exact rfl | (apply kO; (first | exact ov_pure rfl | (apply kOBin; (first | exact aBin)) | (apply kOCall; (first | (apply kCallF; (first | exact (ov_call rfl (fun w hw => hidx w (OElems.rs hat.elems (holds_app (hfA hw) (hfA hw))))))) | (apply kCallB; (first | exact aBlt | exact aLenR)))) | (apply kOLoad; (first | exact aLdF | exact aLdR)) | exact ov_fieldAddr rfl | (apply kOIdx; (first | exact (ov_indexAddr rfl rfl (by omega)) | exact aIdx)) | exact aRest | exact aNew | exact (ov_field1 (ft := 37) rfl rfl rfl rfl))) | (refine kN ?_; (first | (refine kCall ?_; (first | (refine kWFn 96 ?_; (refine s_callF (fun u H => OImg u e.buf H) rfl (fun w hw => c_copyImage e.buf _ w (RInts.keepN hd hap hw) hl) rfl (fun u H hu => ?_); obtain ⟨d', rfl, hu⟩ := hu; have f1 := hu.form; obtain ⟨_, _, rfl⟩ := f1)) | apply s_step)) | (refine kStore ?_; (first | (refine s_setRS _ rfl rfl gpA rfl (ones_img oiA) (by rw [hlen]; show _ + 3 ≤ _; omega) ?_) | refine s_store1 _ rfl rfl gpA rfl (by rfl) ?_ | refine s_storeS _ rfl rfl gpA rfl rfl (by rfl) ?_ | refine s_storeS _ rfl rfl gpA rfl (ones_img oiA) (by rfl) ?_)) | refine s_boxS rfl rfl (fun b hb => ?_) | refine s_allocS rfl (fun b hb => ?_) | refine s_box1 rfl rfl rfl (fun b hb => ?_) | refine s_alloc1 rfl rfl (fun b hb => ?_) | refine s_buildSlice0 rfl (fun b hb => ?_) | refine s_buildSlice rfl rfl rfl rfl rfl (fun b hb => ?_) | apply s_step)) | (refine kG ?_; (first | refine s_gyes rfl rfl rfl ?_ | refine s_gno rfl rfl rfl rfl rfl ?_ | ((first | refine s_split_d rfl rfl (fun h => ?_) (fun h => ?_) | refine s_split_n rfl rfl (fun h => ?_) (fun h => ?_)) <;> (try (first | contradiction | (exfalso; omega)))) | refine s_split_nb rfl rfl (fun h => ?_) (fun h => ?_) | refine s_split rfl rfl (fun h => ?_) (fun h => ?_))) | refine l_then ?_ | (refine kC ?_; (first | refine c_seq ?_ | refine c_regionN rfl ?_ | refine c_ret ?_ | (refine kCond ?_; (first | refine c_cond_t rfl ?_ | refine c_cond_f rfl ?_ | ((first | refine c_cond_d rfl (fun h => ?_) (fun h => ?_) | refine c_cond_n rfl (fun h => ?_) (fun h => ?_)) <;> (try (first | contradiction | (exfalso; omega)))) | refine c_cond_nb rfl (fun h => ?_) (fun h => ?_) | refine c_cond rfl (fun h => ?_) (fun h => ?_))) | refine c_block ?_ | refine c_skip ?_ | refine c_exit ?_ | refine c_regionQN rfl rfl (by decide +kernel) ?_)) | apply s_stepQ | (refine kQG ?_; (first | refine s_gyesQ rfl rfl rfl ?_ | refine s_gnoQ rfl rfl rfl rfl rfl ?_ | ((first | refine s_splitQ_d rfl rfl (fun h => ?_) (fun h => ?_) | refine s_splitQ_n rfl rfl (fun h => ?_) (fun h => ?_)) <;> (try (first | contradiction | (exfalso; omega)))) | refine s_splitQ_nb rfl rfl (fun h => ?_) (fun h => ?_) | refine s_splitQ rfl rfl (fun h => ?_) (fun h => ?_))) | refine lQ_then ?_ | refine lQ_ends ?_ | (refine kE ?_; (first | refine e_then_r ?_ | refine e_block_r ?_ | refine e_then_n ?_ | refine e_then_x ?_ | refine e_block_n ?_ | refine e_block_x ?_ | refine e_block_y rfl ?_)) | refine l_ends ?_)
  have hq := fun (d' : Value) => tcells_buf (r := r) (i := e.buf) (d' := d') (Hc := H) hkin hat.fst
  refine s_leave1 rfl rfl (fun w hw => ?_)
  have hw2 : SSt _ _ [[(bo, srow _ 26)], [(b0, srow _ 62)], H, tpiece T ++ G] w := hw.picks (by (repeat' first | exact Picks.nil | exact gp_hd | apply gp_tl | apply Picks.cons); done) (by rfl)
  simp only [Nat.zero_add, Int.toNat_natCast, List.length_cons, List.length_nil, Nat.reduceAdd] at hw2
  rw [hq] at hw2
  exact ⟨_, _, [], rfl, ⟨rfl, ⟨_, _, rfl, EdAt.buffer hat hu⟩, rfl⟩, SSt_last4 hw2 (perm_buf hkin _ _ _ _)⟩
set_option maxHeartbeats 4000000 in
theorem c_editedDel (s : DScene) (e : DEdit) (d : Value) (bo b0 cap k : Nat) (T : List (ETri DSurf)) (r : List Value) (G : SPiece) (W : World) (hat : EdAt s k T b0 cap r) (hk : e.Kind = 1) (hi : surfaceIndex s.ss e.Id = (k : Int)) (hd : RInts W d e.buf.data)
    (hH : Holds W (EdIn bo b0 cap s T r G)) (hn : (EdIn bo b0 cap s T r G).keys.Nodup) :
    SYieldsG Try.prog 105 #[.pointer (some ⟨bo, 0, none⟩), vEdit e d] (EdIn bo b0 cap s T r G) (fun u H' F => u = .bool true ∧ EdOut bo (edited s e) H' ∧ F = []) W := by
  have hes : edited s e = { s with ss := s.ss.eraseIdx k } := by rw [edited_k ⟨by omega, by omega⟩, editK_remove hk, hi, Int.toNat_natCast]
  rw [hes]
  have hdf := hd.form
  obtain ⟨da, dc, rfl⟩ := hdf
  have hcap := hat.cap1
  have hkin := hat.kin
  have hlen := hat.len
  have hcm : cap ≤ 9223372036854775807 := Nat.le_trans hat.cap2 (by decide)
  have hidx : ∀ w, RS eSurf w (.slice (some ⟨b0, 0, none⟩) T.length cap) s.ss → SYields Try.prog 40 #[vScene s (.slice (some ⟨b0, 0, none⟩) T.length cap), .int .i64 e.Id] (.int .i64 (k : Int)) w := fun w h => by rw [← hi]; exact c_isurfaceIndex s _ _ w h
  refine SYieldsG.mk (s_enterM Try.func105 rfl Try.ntmps105 rfl hH hn ?_)
  refine cc_perm (L' := [[(bo, srow [.int .i64 s.W, .int .i64 s.H, .int .i64 s.Back, .slice (some ⟨b0, 0, none⟩) T.length cap] 26)], [(b0, srow (tcells eSurf T ++ r) 62)], tpiece T ++ G]) (by simp) ?_
  repeat' (first | exact rfl | (apply kO; (first | exact ov_pure rfl | (apply kOBin; (first | exact aBin)) | (apply kOCall; (first | (apply kCallF; (first | exact (ov_call rfl (fun w hw => hidx w (OElems.rs hat.elems (holds_app (hfA hw) (hfA hw))))))) | (apply kCallB; (first | exact aBlt | exact aLenR)))) | (apply kOLoad; (first | exact aLdF | exact aLdR)) | exact ov_fieldAddr rfl | (apply kOIdx; (first | exact (ov_indexAddr rfl rfl (by omega)) | exact aIdx)) | exact aRest | exact aNew | exact (ov_field1 (ft := 37) rfl rfl rfl rfl))) | (refine kN ?_; (first | (refine kCall ?_; (first | (refine kWFn 167 ?_; (refine s_callG _ (fun u H' F => u = .slice (some ⟨b0, 0, none⟩) (T.length - 1) cap ∧ (∃ r', H' = [(b0, srow (tcells eSurf (T.eraseIdx k) ++ r') 62)] ∧ (tcells eSurf (T.eraseIdx k) ++ r').length = cap * 11) ∧ F = []) rfl gpA (fun w hw hh hn => c_deleteS b0 cap k T r w hkin hcap hlen hat.cap2 (tcells_ones hat.own) hh hn) rfl (fun u H' F hst => ?_); obtain ⟨rfl, ⟨r', rfl, hr'⟩, rfl⟩ := hst)) | apply s_step)) | (refine kStore ?_; (first | refine s_store1 _ rfl rfl gpA rfl (by rfl) ?_ | refine s_storeS _ rfl rfl gpA rfl rfl (by rfl) ?_ | refine s_storeS _ rfl rfl gpA rfl (ones_img oiA) (by rfl) ?_)) | refine s_boxS rfl rfl (fun b hb => ?_) | refine s_allocS rfl (fun b hb => ?_) | refine s_box1 rfl rfl rfl (fun b hb => ?_) | refine s_alloc1 rfl rfl (fun b hb => ?_) | refine s_buildSlice0 rfl (fun b hb => ?_) | refine s_buildSlice rfl rfl rfl rfl rfl (fun b hb => ?_) | apply s_step)) | (refine kG ?_; (first | refine s_gyes rfl rfl rfl ?_ | refine s_gno rfl rfl rfl rfl rfl ?_ | ((first | refine s_split_d rfl rfl (fun h => ?_) (fun h => ?_) | refine s_split_n rfl rfl (fun h => ?_) (fun h => ?_)) <;> (try (first | contradiction | (exfalso; omega)))) | refine s_split_nb rfl rfl (fun h => ?_) (fun h => ?_) | refine s_split rfl rfl (fun h => ?_) (fun h => ?_))) | refine l_then ?_ | (refine kC ?_; (first | refine c_seq ?_ | refine c_regionN rfl ?_ | refine c_ret ?_ | (refine kCond ?_; (first | refine c_cond_t rfl ?_ | refine c_cond_f rfl ?_ | ((first | refine c_cond_d rfl (fun h => ?_) (fun h => ?_) | refine c_cond_n rfl (fun h => ?_) (fun h => ?_)) <;> (try (first | contradiction | (exfalso; omega)))) | refine c_cond_nb rfl (fun h => ?_) (fun h => ?_) | refine c_cond rfl (fun h => ?_) (fun h => ?_))) | refine c_block ?_ | refine c_skip ?_ | refine c_exit ?_ | refine c_regionQN rfl rfl (by decide +kernel) ?_)) | apply s_stepQ | (refine kQG ?_; (first | refine s_gyesQ rfl rfl rfl ?_ | refine s_gnoQ rfl rfl rfl rfl rfl ?_ | ((first | refine s_splitQ_d rfl rfl (fun h => ?_) (fun h => ?_) | refine s_splitQ_n rfl rfl (fun h => ?_) (fun h => ?_)) <;> (try (first | contradiction | (exfalso; omega)))) | refine s_splitQ_nb rfl rfl (fun h => ?_) (fun h => ?_) | refine s_splitQ rfl rfl (fun h => ?_) (fun h => ?_))) | refine lQ_then ?_ | refine lQ_ends ?_ | (refine kE ?_; (first | refine e_then_r ?_ | refine e_block_r ?_ | refine e_then_n ?_ | refine e_then_x ?_ | refine e_block_n ?_ | refine e_block_x ?_ | refine e_block_y rfl ?_)) | refine l_ends ?_)
  all_goals exact s_leave1 rfl rfl (fun w hw => ⟨_, _, [], rfl, ⟨rfl, ⟨_, _, rfl, hat.erase hr'⟩, rfl⟩, SSt_last (A := [(bo, srow _ 26)]) (B := [(b0, srow (tcells eSurf (T.eraseIdx k) ++ r') 62)]) (C := tpiece T ++ G) (hw.picks (by (repeat' first | exact Picks.nil | exact gp_hd | apply gp_tl | apply Picks.cons); done) (by rfl)) (perm_erase hkin G)⟩)
end Go.Proofs.Ytakijgpoaeggnaa
namespace Go.Proofs.Ytakijgpoaeggnaa
open Go Sx
section
variable {P : Program} {n : Nat} {lo : SMut} {s : World} {Q : Exit → Act → World → Prop} {E : SEnv} {L : SHeap}
theorem kLoop (id : Nat) {ops : Array Oper} {dr : Bool} {y z : Code} (h : WPC P n lo s (.loop (.seq (.seq (.region id ops dr) z) y)) Q E L) : WPC P n lo s (.loop (.seq (.seq (.region id ops dr) z) y)) Q E L := h
theorem kLoopR (id : Nat) {ops : Array Oper} {dr : Bool} {z : Code} (h : WPC P n lo s (.loop (.seq (.region id ops dr) z)) Q E L) : WPC P n lo s (.loop (.seq (.region id ops dr) z)) Q E L := h
end
end Go.Proofs.Ytakijgpoaeggnaa
namespace Go.Proofs.Ytakijgpoaeggnaa
open Go Sx
attribute [local irreducible] Exit.then Exit.inBlock bodyPost tcells OInts OElems
set_option maxHeartbeats 4000000 in
theorem c_sdoEditNo (s : DScene) (e : DEdit) (v d : Value) (W : World) (hv : RS eSurf W v s.ss) (hd : RInts W d e.buf.data) (hl : surfsLen s.ss ≤ 2000000) (hel : e.buf.data.length ≤ 1000000000) (hno : ¬ (s.ok ∧ editable s e)) : SYieldsF Try.prog 75 #[vScene s v, vEdit e d] (fun u H => OSceneB u (doEdit s e) (decide (doEditOk s e)) H) W := by
  have hvf := hv.form
  obtain ⟨va, vc, rfl⟩ := hvf
  have hdf := hd.form
  obtain ⟨da, dc, rfl⟩ := hdf
  have hil := index_lt s.ss e.Id
  have hno2 : ¬ doEditOk s e := fun hh => hno ⟨hh.1, hh.2.1⟩
  rw [doEdit_no hno2, decide_eq_false hno2]
  by_cases hok : s.ok
  · have hk : ¬ editable s e := fun hh => hno ⟨hok, hh⟩
    unfold editable at hk
    (first | apply SYields.mk | apply SYieldsF.mk | skip); refine s_enter Try.func75 rfl Try.ntmps75 rfl ?_
    repeat' (first | exact rfl | (apply kO; (first | exact ov_pure rfl | (apply kOBin; (first | exact aBin)) | (apply kOCall; (first | (apply kCallF; (first | exact (ov_call rfl (fun w hw => c_ssceneOk s _ w (hv.keep (hw.cells rfl)))) | exact (ov_call rfl (fun w hw => c_ssurfaceIndex s _ _ w (hv.keep (hw.cells rfl)))) | exact (ov_call rfl (fun w hw => c_l01In _ _ _ w)))) | (apply kCallB; (first | exact aBlt | exact aLenR)))) | (apply kOLoad; (first | exact aLdF | exact aLdR)) | exact ov_fieldAddr rfl | (apply kOIdx; (first | exact aIdx)) | exact aRest | exact aNew | exact (ov_field1 (ft := 37) rfl rfl rfl rfl))) | (refine kN ?_; (first | (refine kCall ?_; (first | (refine kWFn 74 ?_; (refine s_callF (fun u H => OScene u s H) rfl (fun w hw => c_l10Copy s _ w (hv.keep (hw.cells rfl)) hl) rfl (fun u H hu => ?_); obtain ⟨v6, rfl, hu⟩ := hu; have f1 := hu.form; obtain ⟨_, _, rfl⟩ := f1)) | apply s_step)) | (refine kStore ?_; (first | (refine s_storeS _ rfl rfl gpA rfl (ones_cons rfl (ones_cons rfl (ones_cons rfl (ones_cons (OElems.one (by assumption)) rfl)))) (by rfl) ?_) | refine s_store1 _ rfl rfl gpA rfl (by rfl) ?_ | refine s_storeS _ rfl rfl gpA rfl rfl (by rfl) ?_ | refine s_storeS _ rfl rfl gpA rfl (ones_img oiA) (by rfl) ?_)) | refine s_boxS rfl rfl (fun b hb => ?_) | refine s_allocS rfl (fun b hb => ?_) | refine s_box1 rfl rfl rfl (fun b hb => ?_) | refine s_alloc1 rfl rfl (fun b hb => ?_) | refine s_buildSlice0 rfl (fun b hb => ?_) | refine s_buildSlice rfl rfl rfl rfl rfl (fun b hb => ?_) | apply s_step)) | (refine kG ?_; (first | refine s_gyes rfl rfl rfl ?_ | refine s_gno rfl rfl rfl rfl rfl ?_ | ((first | refine s_split_d rfl rfl (fun h => ?_) (fun h => ?_) | refine s_split_n rfl rfl (fun h => ?_) (fun h => ?_)) <;> (try (first | contradiction | (exfalso; omega) | (exfalso; exact absurd hok (by assumption)) | (exfalso; omega)))) | refine s_split_nb rfl rfl (fun h => ?_) (fun h => ?_) | refine s_split rfl rfl (fun h => ?_) (fun h => ?_))) | refine l_then ?_ | (refine kC ?_; (first | refine c_seq ?_ | refine c_regionN rfl ?_ | refine c_ret ?_ | (refine kCond ?_; (first | refine c_cond_t rfl ?_ | refine c_cond_f rfl ?_ | ((first | refine c_cond_d rfl (fun h => ?_) (fun h => ?_) | refine c_cond_n rfl (fun h => ?_) (fun h => ?_)) <;> (try (first | contradiction | (exfalso; omega) | (exfalso; exact absurd hok (by assumption)) | (exfalso; omega)))) | refine c_cond_nb rfl (fun h => ?_) (fun h => ?_) | refine c_cond rfl (fun h => ?_) (fun h => ?_))) | refine c_block ?_ | refine c_skip ?_ | refine c_exit ?_ | refine c_regionQN rfl rfl (by decide +kernel) ?_)) | apply s_stepQ | (refine kQG ?_; (first | refine s_gyesQ rfl rfl rfl ?_ | refine s_gnoQ rfl rfl rfl rfl rfl ?_ | ((first | refine s_splitQ_d rfl rfl (fun h => ?_) (fun h => ?_) | refine s_splitQ_n rfl rfl (fun h => ?_) (fun h => ?_)) <;> (try (first | contradiction | (exfalso; omega) | (exfalso; exact absurd hok (by assumption)) | (exfalso; omega)))) | refine s_splitQ_nb rfl rfl (fun h => ?_) (fun h => ?_) | refine s_splitQ rfl rfl (fun h => ?_) (fun h => ?_))) | refine lQ_then ?_ | refine lQ_ends ?_ | (refine kE ?_; (first | refine e_then_r ?_ | refine e_block_r ?_ | refine e_then_n ?_ | refine e_then_x ?_ | refine e_block_n ?_ | refine e_block_x ?_ | refine e_block_y rfl ?_)) | refine l_ends ?_)
    all_goals exact s_leaveN rfl rfl (SRes.cellG rfl rfl fwA (.tmp rfl .nil)) (fun w hw => ⟨_, _, rfl, ⟨_, rfl, hu⟩, hw.toFresh (H := H) gpA⟩) .ret (.inl rfl)
  · (first | apply SYields.mk | apply SYieldsF.mk | skip); refine s_enter Try.func75 rfl Try.ntmps75 rfl ?_
    repeat' (first | exact rfl | (apply kO; (first | exact ov_pure rfl | (apply kOBin; (first | exact aBin)) | (apply kOCall; (first | (apply kCallF; (first | exact (ov_call rfl (fun w hw => c_ssceneOk s _ w (hv.keep (hw.cells rfl)))) | exact (ov_call rfl (fun w hw => c_ssurfaceIndex s _ _ w (hv.keep (hw.cells rfl)))) | exact (ov_call rfl (fun w hw => c_l01In _ _ _ w)))) | (apply kCallB; (first | exact aBlt | exact aLenR)))) | (apply kOLoad; (first | exact aLdF | exact aLdR)) | exact ov_fieldAddr rfl | (apply kOIdx; (first | exact aIdx)) | exact aRest | exact aNew | exact (ov_field1 (ft := 37) rfl rfl rfl rfl))) | (refine kN ?_; (first | (refine kCall ?_; (first | (refine kWFn 74 ?_; (refine s_callF (fun u H => OScene u s H) rfl (fun w hw => c_l10Copy s _ w (hv.keep (hw.cells rfl)) hl) rfl (fun u H hu => ?_); obtain ⟨v6, rfl, hu⟩ := hu; have f1 := hu.form; obtain ⟨_, _, rfl⟩ := f1)) | apply s_step)) | (refine kStore ?_; (first | (refine s_storeS _ rfl rfl gpA rfl (ones_cons rfl (ones_cons rfl (ones_cons rfl (ones_cons (OElems.one (by assumption)) rfl)))) (by rfl) ?_) | refine s_store1 _ rfl rfl gpA rfl (by rfl) ?_ | refine s_storeS _ rfl rfl gpA rfl rfl (by rfl) ?_ | refine s_storeS _ rfl rfl gpA rfl (ones_img oiA) (by rfl) ?_)) | refine s_boxS rfl rfl (fun b hb => ?_) | refine s_allocS rfl (fun b hb => ?_) | refine s_box1 rfl rfl rfl (fun b hb => ?_) | refine s_alloc1 rfl rfl (fun b hb => ?_) | refine s_buildSlice0 rfl (fun b hb => ?_) | refine s_buildSlice rfl rfl rfl rfl rfl (fun b hb => ?_) | apply s_step)) | (refine kG ?_; (first | refine s_gyes rfl rfl rfl ?_ | refine s_gno rfl rfl rfl rfl rfl ?_ | ((first | refine s_split_d rfl rfl (fun h => ?_) (fun h => ?_) | refine s_split_n rfl rfl (fun h => ?_) (fun h => ?_)) <;> (try (first | contradiction | (exfalso; omega) | (exfalso; exact absurd (by assumption) hok)))) | refine s_split_nb rfl rfl (fun h => ?_) (fun h => ?_) | refine s_split rfl rfl (fun h => ?_) (fun h => ?_))) | refine l_then ?_ | (refine kC ?_; (first | refine c_seq ?_ | refine c_regionN rfl ?_ | refine c_ret ?_ | (refine kCond ?_; (first | refine c_cond_t rfl ?_ | refine c_cond_f rfl ?_ | ((first | refine c_cond_d rfl (fun h => ?_) (fun h => ?_) | refine c_cond_n rfl (fun h => ?_) (fun h => ?_)) <;> (try (first | contradiction | (exfalso; omega) | (exfalso; exact absurd (by assumption) hok)))) | refine c_cond_nb rfl (fun h => ?_) (fun h => ?_) | refine c_cond rfl (fun h => ?_) (fun h => ?_))) | refine c_block ?_ | refine c_skip ?_ | refine c_exit ?_ | refine c_regionQN rfl rfl (by decide +kernel) ?_)) | apply s_stepQ | (refine kQG ?_; (first | refine s_gyesQ rfl rfl rfl ?_ | refine s_gnoQ rfl rfl rfl rfl rfl ?_ | ((first | refine s_splitQ_d rfl rfl (fun h => ?_) (fun h => ?_) | refine s_splitQ_n rfl rfl (fun h => ?_) (fun h => ?_)) <;> (try (first | contradiction | (exfalso; omega) | (exfalso; exact absurd (by assumption) hok)))) | refine s_splitQ_nb rfl rfl (fun h => ?_) (fun h => ?_) | refine s_splitQ rfl rfl (fun h => ?_) (fun h => ?_))) | refine lQ_then ?_ | refine lQ_ends ?_ | (refine kE ?_; (first | refine e_then_r ?_ | refine e_block_r ?_ | refine e_then_n ?_ | refine e_then_x ?_ | refine e_block_n ?_ | refine e_block_x ?_ | refine e_block_y rfl ?_)) | refine l_ends ?_)
    all_goals exact s_leaveN rfl rfl (SRes.cellG rfl rfl fwA (.tmp rfl .nil)) (fun w hw => ⟨_, _, rfl, ⟨_, rfl, hu⟩, hw.toFresh (H := H) gpA⟩) .ret (.inl rfl)
set_option maxHeartbeats 4000000 in
theorem c_sdoEditAddN (s : DScene) (e : DEdit) (v d : Value) (W : World) (hv : RS eSurf W v s.ss) (hd : RInts W d e.buf.data) (hl : surfsLen s.ss ≤ 2000000) (hel : e.buf.data.length ≤ 1000000000) (hok : s.ok) (hk : e.Kind = 0) (hi : surfaceIndex s.ss e.Id < 0) : SYieldsF Try.prog 75 #[vScene s v, vEdit e d] (fun u H => OSceneB u (doEdit s e) (decide (doEditOk s e)) H) W := by
  have hvf := hv.form
  obtain ⟨va, vc, rfl⟩ := hvf
  have hdf := hd.form
  obtain ⟨da, dc, rfl⟩ := hdf
  have hil := index_lt s.ss e.Id
  have hlen := hok.2.2.2.1
  have hed : editable s e := .inl hk
  have hes : edited s e = { s with ss := s.ss ++ [added e] } := edited_add hk
  have hsc : ∀ w v', RS eSurf w v' (s.ss ++ [added e]) → SYields Try.prog 84 #[.agg #[.int .i64 s.W, .int .i64 s.H, .int .i64 s.Back, v']] (.bool (decide (edited s e).ok)) w := fun w v' hh => by rw [hes]; exact c_ssceneOk { s with ss := s.ss ++ [added e] } v' w hh
  have hcp : ∀ w v', (edited s e).ok → RS eSurf w v' (s.ss ++ [added e]) → SYieldsF Try.prog 74 #[.agg #[.int .i64 s.W, .int .i64 s.H, .int .i64 s.Back, v']] (fun u H => OScene u (edited s e) H) w := fun w v' hh hh2 => by rw [hes] at hh ⊢; exact c_l10Copy { s with ss := s.ss ++ [added e] } v' w hh2 (scene_len hh)
  (first | apply SYields.mk | apply SYieldsF.mk | skip); refine s_enter Try.func75 rfl Try.ntmps75 rfl ?_
  repeat' (first | exact rfl | (apply kO; (first | exact ov_pure rfl | (apply kOBin; (first | exact aBin)) | (apply kOCall; (first | (apply kCallF; (first | exact (ov_call rfl (fun w hw => hsc w _ (OElems.rs hv7 (hfA hw)))) | exact (ov_call rfl (fun w hw => c_ssceneOk s _ w (hv.keep (hw.cells rfl)))) | exact (ov_call rfl (fun w hw => c_ssurfaceIndex s _ _ w (hv.keep (hw.cells rfl)))) | exact (ov_call rfl (fun w hw => c_l01In _ _ _ w)))) | (apply kCallB; (first | exact aBlt | exact aLenR)))) | (apply kOLoad; (first | exact aLdF | exact aLdR)) | exact ov_fieldAddr rfl | (apply kOIdx; (first | exact aIdx)) | exact aRest | exact aNew | exact (ov_field1 (ft := 37) rfl rfl rfl rfl))) | (refine kN ?_; (first | (refine kCall ?_; (first | (refine kWFn 74 ?_; (refine s_callF (fun u H => OScene u (edited s e) H) rfl (fun w hw => hcp w _ (by assumption) (OElems.rs hv7 (hfA hw))) rfl (fun u H9 hu9 => ?_); obtain ⟨v9, rfl, hu9⟩ := hu9; have f1 := hu9.form; obtain ⟨_, _, rfl⟩ := f1)) | (refine kWFn 74 ?_; (refine s_callF (fun u H => OScene u s H) rfl (fun w hw => c_l10Copy s _ w (hv.keep (hw.cells rfl)) hl) rfl (fun u H hu => ?_); obtain ⟨v6, rfl, hu⟩ := hu; have f1 := hu.form; obtain ⟨_, _, rfl⟩ := f1)) | (refine kWFn 153 ?_; (refine s_callF (fun u H => OImg u e.buf H) rfl (fun w hw => c_l05Copy e.buf _ w (hd.keep (hw.cells rfl)) hel) rfl (fun u H5 hu5 => ?_); obtain ⟨d', rfl, hu5⟩ := hu5; have f1 := hu5.form; obtain ⟨_, _, rfl⟩ := f1)) | (refine kWApp ?_; (refine s_appendE _ _ _ (el := eSurf) (a := added e) rfl rfl (by assumption) gpA gpA (show eSurf.own _ _ _ from hu5) gpA rfl rfl (eSurf_ones (OInts.one (by assumption))) (by rw [scells_eq]; rfl) (by decide) (by omega) (by decide) rfl (fun v7 H7 hv7 => ?_); have f1 := hv7.form; obtain ⟨ua, uc, rfl⟩ := f1)) | apply s_step)) | (refine kStore ?_; (first | (refine s_storeS _ rfl rfl gpA rfl (ones_cons rfl (ones_cons rfl (ones_cons rfl (ones_cons (OElems.one (by assumption)) rfl)))) (by rfl) ?_) | refine s_store1 _ rfl rfl gpA rfl (by rfl) ?_ | refine s_storeS _ rfl rfl gpA rfl rfl (by rfl) ?_ | refine s_storeS _ rfl rfl gpA rfl (ones_img oiA) (by rfl) ?_)) | refine s_boxS rfl rfl (fun b hb => ?_) | refine s_allocS rfl (fun b hb => ?_) | refine s_box1 rfl rfl rfl (fun b hb => ?_) | refine s_alloc1 rfl rfl (fun b hb => ?_) | refine s_buildSlice0 rfl (fun b hb => ?_) | refine s_buildSlice rfl rfl rfl rfl rfl (fun b hb => ?_) | apply s_step)) | (refine kG ?_; (first | refine s_gyes rfl rfl rfl ?_ | refine s_gno rfl rfl rfl rfl rfl ?_ | ((first | refine s_split_d rfl rfl (fun h => ?_) (fun h => ?_) | refine s_split_n rfl rfl (fun h => ?_) (fun h => ?_)) <;> (try (first | contradiction | (exfalso; omega) | (exfalso; exact absurd hok (by assumption)) | (exfalso; omega)))) | refine s_split_nb rfl rfl (fun h => ?_) (fun h => ?_) | refine s_split rfl rfl (fun h => ?_) (fun h => ?_))) | (refine kS ?_; (first | refine h_exec rfl ?_ | refine h_take_nil rfl rfl rfl ?_ | refine h_take_pick rfl rfl rfl ?_ | refine h_nil ?_ | refine h_alt ?_ ?_ | apply h_take)) | (refine kBack ?_; (first | refine h_back_last rfl ?_ | refine h_backN rfl subA ?_)) | refine l_then ?_ | (refine kC ?_; (first | (refine kReg 14 ?_; refine c_regionSubN (SPlan.take 0 (SPlan.take 1 (SPlan.take 2 (SPlan.take 3 (SPlan.take 4 (SPlan.take 5 (SPlan.take 6 (SPlan.take 7 (SPlan.take 8 (SPlan.take 9 (SPlan.run 10 (SPlan.take 11 (SPlan.run 12 (SPlan.run 13 (SPlan.take 14 (SPlan.run 15 SPlan.done)))))))))))))))) (some 15) [true, true, false, true, true, true] rfl rfl rfl (by decide +kernel) ?_) | (refine kLoop 7 ?_; refine c_loopV (ι := Unit) (fun _ => True) (fun _ => [(9, .int .i64 0)]) (fun _ => [_, _, _, _, _, _]) (fun _ => 0) () trivial rfl (fun _ => rfl) ⟨rfl, trivial⟩ (fun w hw => hw) (fun _ _ => ?_)) | refine c_seq ?_ | refine c_regionN rfl ?_ | refine c_ret ?_ | (refine kCond ?_; (first | refine c_cond_t rfl ?_ | refine c_cond_f rfl ?_ | ((first | refine c_cond_d rfl (fun h => ?_) (fun h => ?_) | refine c_cond_n rfl (fun h => ?_) (fun h => ?_)) <;> (try (first | contradiction | (exfalso; omega) | (exfalso; exact absurd hok (by assumption)) | (exfalso; omega)))) | refine c_cond_nb rfl (fun h => ?_) (fun h => ?_) | refine c_cond rfl (fun h => ?_) (fun h => ?_))) | refine c_block ?_ | refine c_skip ?_ | refine c_exit ?_ | refine c_regionQN rfl rfl (by decide +kernel) ?_)) | apply s_stepQ | (refine kQG ?_; (first | refine s_gyesQ rfl rfl rfl ?_ | refine s_gnoQ rfl rfl rfl rfl rfl ?_ | ((first | refine s_splitQ_d rfl rfl (fun h => ?_) (fun h => ?_) | refine s_splitQ_n rfl rfl (fun h => ?_) (fun h => ?_)) <;> (try (first | contradiction | (exfalso; omega) | (exfalso; exact absurd hok (by assumption)) | (exfalso; omega)))) | refine s_splitQ_nb rfl rfl (fun h => ?_) (fun h => ?_) | refine s_splitQ rfl rfl (fun h => ?_) (fun h => ?_))) | refine lQ_then ?_ | refine lQ_ends ?_ | (refine kE ?_; (first | refine e_then_r ?_ | refine e_block_r ?_ | refine e_then_n ?_ | refine e_then_x ?_ | refine e_block_n ?_ | refine e_block_x ?_ | refine e_block_y rfl ?_)) | refine l_ends ?_)
  all_goals first
    | (have hno : ¬ doEditOk s e := fun hh => absurd hh.2.2 (by assumption)
       rw [doEdit_no hno, decide_eq_false hno]
       exact s_leaveN rfl rfl (SRes.cellG rfl rfl fwA (.tmp rfl .nil)) (fun w hw => ⟨_, _, rfl, ⟨_, rfl, hu⟩, hw.toFresh (H := H) gpA⟩) .ret (.inl rfl))
    | (have hyes : doEditOk s e := ⟨hok, hed, by assumption⟩
       rw [doEdit_yes hyes, decide_eq_true hyes]
       exact s_leaveN rfl rfl (SRes.cellG rfl rfl fwA (.tmp rfl .nil)) (fun w hw => ⟨_, _, rfl, ⟨_, rfl, hu9⟩, hw.toFresh (H := H9) gpA⟩) .ret (.inl rfl))
set_option maxHeartbeats 4000000 in
theorem c_sdoEditBackN (s : DScene) (e : DEdit) (v d : Value) (W : World) (hv : RS eSurf W v s.ss) (hd : RInts W d e.buf.data) (hl : surfsLen s.ss ≤ 2000000) (hel : e.buf.data.length ≤ 1000000000) (hok : s.ok) (hk : e.Kind = 10) (hi : surfaceIndex s.ss e.Id < 0) : SYieldsF Try.prog 75 #[vScene s v, vEdit e d] (fun u H => OSceneB u (doEdit s e) (decide (doEditOk s e)) H) W := by
  have hvf := hv.form
  obtain ⟨va, vc, rfl⟩ := hvf
  have hdf := hd.form
  obtain ⟨da, dc, rfl⟩ := hdf
  have hil := index_lt s.ss e.Id
  have hlen := hok.2.2.2.1
  have hed : editable s e := .inr (.inl hk)
  have hes : edited s e = { s with Back := e.A } := edited_back hk
  have hsc : ∀ w v', RS eSurf w v' (s.ss) → SYields Try.prog 84 #[.agg #[.int .i64 s.W, .int .i64 s.H, .int .i64 e.A, v']] (.bool (decide (edited s e).ok)) w := fun w v' hh => by rw [hes]; exact c_ssceneOk { s with Back := e.A } v' w hh
  have hcp : ∀ w v', (edited s e).ok → RS eSurf w v' (s.ss) → SYieldsF Try.prog 74 #[.agg #[.int .i64 s.W, .int .i64 s.H, .int .i64 e.A, v']] (fun u H => OScene u (edited s e) H) w := fun w v' hh hh2 => by rw [hes] at hh ⊢; exact c_l10Copy { s with Back := e.A } v' w hh2 (scene_len hh)
  (first | apply SYields.mk | apply SYieldsF.mk | skip); refine s_enter Try.func75 rfl Try.ntmps75 rfl ?_
  repeat' (first | exact rfl | (apply kO; (first | exact ov_pure rfl | (apply kOBin; (first | exact aBin)) | (apply kOCall; (first | (apply kCallF; (first | exact (ov_call rfl (fun w hw => hsc w _ (OElems.rs hu (hfA hw)))) | exact (ov_call rfl (fun w hw => c_ssceneOk s _ w (hv.keep (hw.cells rfl)))) | exact (ov_call rfl (fun w hw => c_ssurfaceIndex s _ _ w (hv.keep (hw.cells rfl)))) | exact (ov_call rfl (fun w hw => c_l01In _ _ _ w)))) | (apply kCallB; (first | exact aBlt | exact aLenR)))) | (apply kOLoad; (first | exact aLdF | exact aLdR)) | exact ov_fieldAddr rfl | (apply kOIdx; (first | exact aIdx)) | exact aRest | exact aNew | exact (ov_field1 (ft := 37) rfl rfl rfl rfl))) | (refine kN ?_; (first | (refine kCall ?_; (first | (refine kWFn 74 ?_; (refine s_callF (fun u H => OScene u (edited s e) H) rfl (fun w hw => hcp w _ (by assumption) (OElems.rs hu (hfA hw))) rfl (fun u H9 hu9 => ?_); obtain ⟨v9, rfl, hu9⟩ := hu9; have f1 := hu9.form; obtain ⟨_, _, rfl⟩ := f1)) | (refine kWFn 74 ?_; (refine s_callF (fun u H => OScene u s H) rfl (fun w hw => c_l10Copy s _ w (hv.keep (hw.cells rfl)) hl) rfl (fun u H hu => ?_); obtain ⟨v6, rfl, hu⟩ := hu; have f1 := hu.form; obtain ⟨_, _, rfl⟩ := f1)) | apply s_step)) | (refine kStore ?_; (first | (refine s_storeS _ rfl rfl gpA rfl (ones_cons rfl (ones_cons rfl (ones_cons rfl (ones_cons (OElems.one (by assumption)) rfl)))) (by rfl) ?_) | refine s_store1 _ rfl rfl gpA rfl (by rfl) ?_ | refine s_storeS _ rfl rfl gpA rfl rfl (by rfl) ?_ | refine s_storeS _ rfl rfl gpA rfl (ones_img oiA) (by rfl) ?_)) | refine s_boxS rfl rfl (fun b hb => ?_) | refine s_allocS rfl (fun b hb => ?_) | refine s_box1 rfl rfl rfl (fun b hb => ?_) | refine s_alloc1 rfl rfl (fun b hb => ?_) | refine s_buildSlice0 rfl (fun b hb => ?_) | refine s_buildSlice rfl rfl rfl rfl rfl (fun b hb => ?_) | apply s_step)) | (refine kG ?_; (first | refine s_gyes rfl rfl rfl ?_ | refine s_gno rfl rfl rfl rfl rfl ?_ | ((first | refine s_split_d rfl rfl (fun h => ?_) (fun h => ?_) | refine s_split_n rfl rfl (fun h => ?_) (fun h => ?_)) <;> (try (first | contradiction | (exfalso; omega) | (exfalso; contradiction) | (exfalso; exact absurd hok (by assumption)) | (exfalso; omega)))) | refine s_split_nb rfl rfl (fun h => ?_) (fun h => ?_) | refine s_split rfl rfl (fun h => ?_) (fun h => ?_))) | refine l_then ?_ | (refine kC ?_; (first | (refine kLoop 7 ?_; refine c_loopV (ι := Unit) (fun _ => True) (fun _ => [(9, .int .i64 0)]) (fun _ => [_, _, _, _, _, _]) (fun _ => 0) () trivial rfl (fun _ => rfl) ⟨rfl, trivial⟩ (fun w hw => hw) (fun _ _ => ?_)) | refine c_seq ?_ | refine c_regionN rfl ?_ | refine c_ret ?_ | (refine kCond ?_; (first | refine c_cond_t rfl ?_ | refine c_cond_f rfl ?_ | ((first | refine c_cond_d rfl (fun h => ?_) (fun h => ?_) | refine c_cond_n rfl (fun h => ?_) (fun h => ?_)) <;> (try (first | contradiction | (exfalso; omega) | (exfalso; contradiction) | (exfalso; exact absurd hok (by assumption)) | (exfalso; omega)))) | refine c_cond_nb rfl (fun h => ?_) (fun h => ?_) | refine c_cond rfl (fun h => ?_) (fun h => ?_))) | refine c_block ?_ | refine c_skip ?_ | refine c_exit ?_ | refine c_regionQN rfl rfl (by decide +kernel) ?_)) | apply s_stepQ | (refine kQG ?_; (first | refine s_gyesQ rfl rfl rfl ?_ | refine s_gnoQ rfl rfl rfl rfl rfl ?_ | ((first | refine s_splitQ_d rfl rfl (fun h => ?_) (fun h => ?_) | refine s_splitQ_n rfl rfl (fun h => ?_) (fun h => ?_)) <;> (try (first | contradiction | (exfalso; omega) | (exfalso; contradiction) | (exfalso; exact absurd hok (by assumption)) | (exfalso; omega)))) | refine s_splitQ_nb rfl rfl (fun h => ?_) (fun h => ?_) | refine s_splitQ rfl rfl (fun h => ?_) (fun h => ?_))) | refine lQ_then ?_ | refine lQ_ends ?_ | (refine kE ?_; (first | refine e_then_r ?_ | refine e_block_r ?_ | refine e_then_n ?_ | refine e_then_x ?_ | refine e_block_n ?_ | refine e_block_x ?_ | refine e_block_y rfl ?_)) | refine l_ends ?_)
  all_goals first
    | (have hno : ¬ doEditOk s e := fun hh => absurd hh.2.2 (by assumption)
       rw [doEdit_no hno, decide_eq_false hno]
       exact s_leaveN rfl rfl (SRes.cellG rfl rfl fwA (.tmp rfl .nil)) (fun w hw => ⟨_, _, rfl, ⟨_, rfl, hu⟩, hw.toFresh (H := H) gpA⟩) .ret (.inl rfl))
    | (have hyes : doEditOk s e := ⟨hok, hed, by assumption⟩
       rw [doEdit_yes hyes, decide_eq_true hyes]
       exact s_leaveN rfl rfl (SRes.cellG rfl rfl fwA (.tmp rfl .nil)) (fun w hw => ⟨_, _, rfl, ⟨_, rfl, hu9⟩, hw.toFresh (H := H9) gpA⟩) .ret (.inl rfl))
end Go.Proofs.Ytakijgpoaeggnaa
namespace Go.Proofs.Ytakijgpoaeggnaa
open Go Sx
attribute [local irreducible] Exit.then Exit.inBlock bodyPost tcells OInts OElems
theorem er_map {T : List (ETri DSurf)} {l : List DSurf} {k j : Nat} (hT : T.map (·.1) = l) (hj : T.length ≤ j) : (eraseTo T k j).map (·.1) = l.eraseIdx k := by rw [eraseTo_all T k hj, map_eraseIdx', hT]
theorem at_map {T : List (ETri DSurf)} {l : List DSurf} {k : Nat} (hT : T.map (·.1) = l) : (T.getD k dT).1 = l.getD k default := by rw [getT_fst, hT]
section
variable {T : List (ETri DSurf)} {l : List DSurf} {k j : Nat} {U : TypeId} {v : Value} {H G : SPiece} {w : World}
theorem rd_same (h1 : OVec eSurf.k U v T.length (tcells eSurf T) H) (hT : T.map (·.1) = l) (h2 : ∀ t ∈ T, eSurf.own t.2.1 t.1 t.2.2) (hw : Holds w H) (hq : Holds w (tpiece T ++ G)) : RS eSurf w v l := by
  have q := RS_tri h1 hw (tri_rd h2 hq)
  rwa [hT] at q
theorem rd_del (h1 : OVec eSurf.k U v (eraseTo T k j).length (tcells eSurf (eraseTo T k j)) H) (hT : T.map (·.1) = l) (h2 : ∀ t ∈ T, eSurf.own t.2.1 t.1 t.2.2) (hj : T.length ≤ j) (hw : Holds w H) (hq : Holds w (tpiece T ++ G)) : RS eSurf w v (l.eraseIdx k) := by
  have q := RS_tri h1 hw (fun t ht => tri_rd h2 hq t (eraseTo_sub ht))
  rwa [er_map hT hj] at q
theorem rd_up (h1 : OVec eSurf.k U v (eraseTo T k j ++ [T.getD k dT]).length (tcells eSurf (eraseTo T k j ++ [T.getD k dT])) H) (hk : k < T.length) (hT : T.map (·.1) = l) (h2 : ∀ t ∈ T, eSurf.own t.2.1 t.1 t.2.2) (hj : T.length ≤ j) (hw : Holds w H) (hq : Holds w (tpiece T ++ G)) : RS eSurf w v (l.eraseIdx k ++ [l.getD k default]) := by
  have q := RS_tri h1 hw (fun t ht => tri_rd h2 hq t (by
    rcases List.mem_append.1 ht with ht | ht
    · exact eraseTo_sub ht
    · rw [List.mem_singleton] at ht; rw [ht]; exact getT_mem hk))
  rw [List.map_append, er_map hT hj, List.map_cons, List.map_nil, at_map hT] at q
  exact q
theorem rd_low (h1 : OVec eSurf.k U v (T.getD k dT :: eraseTo T k j).length (tcells eSurf (T.getD k dT :: eraseTo T k j)) H) (hk : k < T.length) (hT : T.map (·.1) = l) (h2 : ∀ t ∈ T, eSurf.own t.2.1 t.1 t.2.2) (hj : T.length ≤ j) (hw : Holds w H) (hq : Holds w (tpiece T ++ G)) : RS eSurf w v (l.getD k default :: l.eraseIdx k) := by
  have q := RS_tri h1 hw (fun t ht => tri_rd h2 hq t (by
    rcases List.mem_cons.1 ht with ht | ht
    · rw [ht]; exact getT_mem hk
    · exact eraseTo_sub ht))
  rw [List.map_cons, er_map hT hj, at_map hT] at q
  exact q
theorem rd_add {t0 : ETri DSurf} (h1 : OVec eSurf.k U v (T ++ [t0]).length (tcells eSurf (T ++ [t0])) H) (hT : T.map (·.1) = l) (h2 : ∀ t ∈ T, eSurf.own t.2.1 t.1 t.2.2) (h3 : RInts w t0.2.1 t0.1.buf.data) (hw : Holds w H) (hq : Holds w (tpiece T ++ G)) : RS eSurf w v (l ++ [t0.1]) := by
  have q := RS_tri h1 hw (fun t ht => by
    rcases List.mem_append.1 ht with ht | ht
    · exact tri_rd h2 hq t ht
    · rw [List.mem_singleton] at ht; rw [ht]; exact h3)
  rw [List.map_append, hT] at q
  exact q
theorem rd_turn {s : DScene} {b0 cap : Nat} {r cells : List Value} (hat : EdAt s k T b0 cap r) (a' : DSurf) (he : a'.buf = (s.ss.getD k default).buf) (hc : cells = tcells eSurf (T.set k (a', (T.getD k dT).2.1, (T.getD k dT).2.2)) ++ r) (hw : Holds w [(b0, srow cells 62)]) (hq : Holds w (tpiece T ++ G)) : RS eSurf w (.slice (some ⟨b0, 0, none⟩) T.length cap) (s.ss.set k a') :=
  OElems.rs (EdAt.turn (G := G) hat a' he) (holds_app (by rw [← hc]; exact hw) hq)
theorem holds_perm {A C : SPiece} (hp : A.Perm C) (h : Holds w A) : Holds w C := fun c o hm => h c o (hp.mem_iff.2 hm)
theorem rd_buf {s : DScene} {b0 cap : Nat} {r cells : List Value} {i : DImg} {d' : Value} {Hc : SPiece} (hat : EdAt s k T b0 cap r) (ho : OInts 3 d' i.data Hc) (hc : cells = tcells eSurf (T.set k ({ s.ss.getD k default with buf := i }, d', Hc)) ++ r) (hw : Holds w [(b0, srow cells 62)]) (h5 : Holds w Hc) (hq : Holds w (tpiece T ++ G)) : RS eSurf w (.slice (some ⟨b0, 0, none⟩) T.length cap) (s.ss.set k { s.ss.getD k default with buf := i }) :=
  OElems.rs (EdAt.buffer (G := G) hat ho) (holds_app (by rw [← hc]; exact hw) (holds_perm (perm_buf hat.kin _ _ _ _) (holds_app h5 hq)))
theorem k11 (k : Nat) : 0 + ((k : Int)).toNat * 11 = k * 11 := by omega
theorem _root_.Sx.OVec.one {k : Nat} {T : TypeId} {v : Value} {n : Nat} {xs : List Value} {H : SPiece} (h : OVec k T v n xs H) : v.oneCell' = true := by
  obtain ⟨a, c, rfl⟩ := OVec.form h; rfl
theorem tnil : tcells eSurf ([] : List (ETri DSurf)) = [] := by unfold tcells; rfl
end
end Go.Proofs.Ytakijgpoaeggnaa
namespace Go.Proofs.Ytakijgpoaeggnaa
open Go Sx
attribute [local irreducible] Exit.then Exit.inBlock bodyPost tcells OInts OElems
set_option maxHeartbeats 4000000 in
theorem c_sdoEditBackK (k : Nat) (s : DScene) (e : DEdit) (v d : Value) (W : World) (hv : RS eSurf W v s.ss) (hd : RInts W d e.buf.data) (hl : surfsLen s.ss ≤ 2000000) (hel : e.buf.data.length ≤ 1000000000) (hok : s.ok) (hk : e.Kind = 10) (hi : surfaceIndex s.ss e.Id = (k : Int)) : SYieldsF Try.prog 75 #[vScene s v, vEdit e d] (fun u H => OSceneB u (doEdit s e) (decide (doEditOk s e)) H) W := by
  have hvf := hv.form
  obtain ⟨va, vc, rfl⟩ := hvf
  have hdf := hd.form
  obtain ⟨da, dc, rfl⟩ := hdf
  have hil := index_lt s.ss e.Id
  have hlen := hok.2.2.2.1
  have hidx : ∀ w, RS eSurf w (.slice va s.ss.length vc) s.ss → SYields Try.prog 41 #[vScene s (.slice va s.ss.length vc), .int .i64 e.Id] (.int .i64 (k : Int)) w := fun w hh => by rw [← hi]; exact c_ssurfaceIndex s _ _ w hh
  have hed : editable s e := .inr (.inl hk)
  have hes : edited s e = { s with Back := e.A } := edited_back hk
  have hsc : ∀ w v', RS eSurf w v' (s.ss) → SYields Try.prog 84 #[.agg #[.int .i64 s.W, .int .i64 s.H, .int .i64 e.A, v']] (.bool (decide (edited s e).ok)) w := fun w v' hh => by rw [hes]; exact c_ssceneOk { s with Back := e.A } v' w hh
  have hcp : ∀ w v', (edited s e).ok → RS eSurf w v' (s.ss) → SYieldsF Try.prog 74 #[.agg #[.int .i64 s.W, .int .i64 s.H, .int .i64 e.A, v']] (fun u H => OScene u (edited s e) H) w := fun w v' hh hh2 => by rw [hes] at hh ⊢; exact c_l10Copy { s with Back := e.A } v' w hh2 (scene_len hh)
  (first | apply SYields.mk | apply SYieldsF.mk | skip); refine s_enter Try.func75 rfl Try.ntmps75 rfl ?_
  repeat' (first | exact rfl | (apply kO; (first | exact ov_pure rfl | (apply kOBin; (first | exact aBin)) | (apply kOCall; (first | (apply kCallF; (first | exact (ov_call rfl (fun w hw => hsc w _ (rd_same h1 hT h2 (hfA hw) (hfA hw)))) | exact (ov_call rfl (fun w hw => c_ssceneOk s _ w (hv.keep (hw.cells rfl)))) | exact (ov_call rfl (fun w hw => hidx w (hv.keep (hw.cells rfl)))) | exact (ov_call rfl (fun w hw => c_l01In _ _ _ w)))) | (apply kCallB; (first | exact aBlt | exact aLenR)))) | (apply kOLoad; (first | exact (ov_ldRZ (fun w hw => trow h1 (hfA hw)) rfl rfl (by omega) rfl) | exact aLdF | exact aLdR)) | exact ov_fieldAddr rfl | (apply kOIdx; (first | exact (ov_idxR (fun w hw => trow h1 (hfA hw)) rfl rfl (by omega)) | exact aIdx)) | exact aRest | exact aNew | exact (ov_field1 (ft := 37) rfl rfl rfl rfl))) | (refine kN ?_; (first | (refine kCall ?_; (first | (refine kWFn 74 ?_; (refine s_callF (fun u H => OScene u (edited s e) H) rfl (fun w hw => hcp w _ (by assumption) (rd_same h1 hT h2 (hfA hw) (hfA hw))) rfl (fun u H9 hu9 => ?_); obtain ⟨v9, rfl, hu9⟩ := hu9; have f1 := hu9.form; obtain ⟨_, _, rfl⟩ := f1)) | (refine kWFn 74 ?_; (refine s_callF (fun u H => OScene u s H) rfl (fun w hw => c_l10Copy s _ w (hv.keep (hw.cells rfl)) hl) rfl (fun u H hu => ?_); obtain ⟨v6, rfl, hu⟩ := hu)) | (refine kWApp ?_; (refine s_appendT _ _ (T.getD j.1 dT) rfl rfl hj2 gpA gpA (eSurf_ones (OInts.one (show OInts _ _ _ _ from h2 _ (getT_mem (by omega))))) (by rw [scells_eq]; rfl) (by have := hel2 j.1; omega) (by decide) rfl (fun v' H' hv' => ?_); have f1 := OVec.form hv'; obtain ⟨ua, uc, rfl⟩ := f1)) | apply s_step)) | (refine kStore ?_; (first | (refine s_storeS _ rfl rfl gpA rfl (ones_cons rfl (ones_cons rfl (ones_cons rfl (ones_cons (OElems.one (by assumption)) rfl)))) (by rfl) ?_) | refine s_store1 _ rfl rfl gpA rfl (by rfl) ?_ | refine s_storeS _ rfl rfl gpA rfl rfl (by rfl) ?_ | refine s_storeS _ rfl rfl gpA rfl (ones_img oiA) (by rfl) ?_)) | refine s_boxS rfl rfl (fun b hb => ?_) | refine s_allocS rfl (fun b hb => ?_) | refine s_box1 rfl rfl rfl (fun b hb => ?_) | refine s_alloc1 rfl rfl (fun b hb => ?_) | refine s_buildSlice0 rfl (fun b hb => ?_) | refine s_buildSlice rfl rfl rfl rfl rfl (fun b hb => ?_) | apply s_step)) | (refine kG ?_; (first | refine s_gyes rfl rfl rfl ?_ | refine s_gno rfl rfl rfl rfl rfl ?_ | ((first | refine s_split_d rfl rfl (fun h => ?_) (fun h => ?_) | refine s_split_n rfl rfl (fun h => ?_) (fun h => ?_)) <;> (try (first | contradiction | (exfalso; omega) | (exfalso; exact absurd hok (by assumption)) | (exfalso; omega)))) | refine s_split_nb rfl rfl (fun h => ?_) (fun h => ?_) | refine s_split rfl rfl (fun h => ?_) (fun h => ?_))) | (refine kS ?_; (first | refine h_exec rfl ?_ | refine h_take_nil rfl rfl rfl ?_ | refine h_take_pick rfl rfl rfl ?_ | refine h_nil ?_ | refine h_alt ?_ ?_ | apply h_take)) | (refine kBack ?_; (first | refine h_back_last rfl ?_ | refine h_backN rfl subA ?_)) | refine l_then ?_ | (refine kC ?_; (first | (refine kReg 10 ?_; refine c_regionSubN (SPlan.take 0 (SPlan.take 1 (SPlan.take 2 (SPlan.take 3 (SPlan.take 4 (SPlan.take 5 (SPlan.take 6 (SPlan.run 7 (SPlan.run 8 (SPlan.take 9 (SPlan.run 10 SPlan.done))))))))))) (some 10) [true, true, true, true, false, true, true, true] rfl rfl rfl (by decide +kernel) ?_) | (refine kLoop 7 ?_; obtain ⟨T, H0, G, hT, h1, h2, rfl⟩ := OElems.tri hu; have hTl : T.length = s.ss.length := (by rw [← hT, List.length_map]); obtain ⟨b0, cap, r, rfl, rfl, h4, h5, h6, h7⟩ := (ovec_split h1).resolve_left (fun hh => (by have := hh.2.1; omega)); have hat : EdAt s k T b0 cap r := ⟨hT, by omega, h2, h5, h6, h7⟩; have hln := hat.len; have hel2 := fun i => eraseTo_length T k i; refine cc_perm (L := [?pa, ?pb, [(b0, srow (tcells eSurf T ++ r) 62)] ++ (tpiece T ++ G), ?pc, ?pd, ?pe]) (L' := [?pa, ?pb, [(b0, srow (tcells eSurf T ++ r) 62)], tpiece T ++ G, [], ?pc, ?pd, ?pe]) (by simp) ?_; refine c_loopV (ι := Nat × Value × SPiece) (fun j => j.1 ≤ T.length ∧ OVec eSurf.k 62 j.2.1 (eraseTo T k j.1).length (tcells eSurf (eraseTo T k j.1)) j.2.2) (fun j => [(9, .int .i64 (j.1 : Int))]) (fun j => [[(_, srow [.int .i64 0, .int .i64 0, .int .i64 0, j.2.1] 26)], _, _, _, j.2.2, _, _, _]) (fun j => T.length - j.1) (0, .slice none 0 0, []) ⟨by dsimp only; omega, by dsimp only; rw [eraseTo_zero, tnil]; exact OVec.nil⟩ rfl (fun _ => rfl) ⟨rfl, trivial⟩ (fun w hw => hw) (fun j hj => ?_); obtain ⟨hj1, hj2⟩ := hj) | refine c_seq ?_ | refine c_regionN rfl ?_ | refine c_ret ?_ | (refine kCond ?_; (first | refine c_cond_t rfl ?_ | refine c_cond_f rfl ?_ | ((first | refine c_cond_d rfl (fun h => ?_) (fun h => ?_) | refine c_cond_n rfl (fun h => ?_) (fun h => ?_)) <;> (try (first | contradiction | (exfalso; omega) | (exfalso; exact absurd hok (by assumption)) | (exfalso; omega)))) | refine c_cond_nb rfl (fun h => ?_) (fun h => ?_) | refine c_cond rfl (fun h => ?_) (fun h => ?_))) | refine c_block ?_ | refine c_skip ?_ | refine c_exit ?_ | refine c_regionQN rfl rfl (by decide +kernel) ?_)) | apply s_stepQ | (refine kQG ?_; (first | refine s_gyesQ rfl rfl rfl ?_ | refine s_gnoQ rfl rfl rfl rfl rfl ?_ | ((first | refine s_splitQ_d rfl rfl (fun h => ?_) (fun h => ?_) | refine s_splitQ_n rfl rfl (fun h => ?_) (fun h => ?_)) <;> (try (first | contradiction | (exfalso; omega) | (exfalso; exact absurd hok (by assumption)) | (exfalso; omega)))) | refine s_splitQ_nb rfl rfl (fun h => ?_) (fun h => ?_) | refine s_splitQ rfl rfl (fun h => ?_) (fun h => ?_))) | refine lQ_then ?_ | refine lQ_ends ?_ | (refine kE ?_; (first | refine e_then_r ?_ | refine e_block_r ?_ | refine e_then_n ?_ | refine e_then_x ?_ | refine e_block_n ?_ | refine e_block_x ?_ | refine e_block_y rfl ?_)) | refine l_ends ?_)
  · exact e_round (j.1 + 1, _, H') ⟨by dsimp only; omega, by dsimp only; rw [eraseTo_succ dT (by omega), if_neg (by omega)]; exact hv'⟩ ⟨rfl, (by repeat' first | exact trivial | refine ⟨rfl, ?_⟩)⟩ (fun w hw => hw.picks (by (repeat' first | exact Picks.nil | exact gp_hd | apply gp_tl | apply Picks.cons); done) (by rfl)) (by dsimp only; omega)
  · exact e_round (j.1 + 1, j.2.1, j.2.2) ⟨by dsimp only; omega, by dsimp only; rw [eraseTo_succ dT (by omega), if_pos (by omega), List.append_nil]; exact hj2⟩ ⟨rfl, (by repeat' first | exact trivial | refine ⟨rfl, ?_⟩)⟩ (fun w hw => hw.picks (by (repeat' first | exact Picks.nil | exact gp_hd | apply gp_tl | apply Picks.cons); done) (by rfl)) (by dsimp only; omega)
  all_goals first
    | (have hno : ¬ doEditOk s e := fun hh => absurd hh.2.2 (by assumption)
       rw [doEdit_no hno, decide_eq_false hno]
       exact s_leaveN rfl rfl (SRes.cellG rfl rfl fwA (.tmp rfl .nil)) (fun w hw => ⟨_, _, rfl, ⟨_, rfl, hu⟩, hw.toFresh (H := H) gpA⟩) .ret (.inl rfl))
    | (have hyes : doEditOk s e := ⟨hok, hed, by assumption⟩
       rw [doEdit_yes hyes, decide_eq_true hyes]
       exact s_leaveN rfl rfl (SRes.cellG rfl rfl fwA (.tmp rfl .nil)) (fun w hw => ⟨_, _, rfl, ⟨_, rfl, hu9⟩, hw.toFresh (H := H9) gpA⟩) .ret (.inl rfl))
end Go.Proofs.Ytakijgpoaeggnaa
namespace Go.Proofs.Ytakijgpoaeggnaa
open Go Sx
attribute [local irreducible] Exit.then Exit.inBlock bodyPost tcells OInts OElems
set_option maxHeartbeats 4000000 in
theorem c_sdoEditAddK (k : Nat) (s : DScene) (e : DEdit) (v d : Value) (W : World) (hv : RS eSurf W v s.ss) (hd : RInts W d e.buf.data) (hl : surfsLen s.ss ≤ 2000000) (hel : e.buf.data.length ≤ 1000000000) (hok : s.ok) (hk : e.Kind = 0) (hi : surfaceIndex s.ss e.Id = (k : Int)) : SYieldsF Try.prog 75 #[vScene s v, vEdit e d] (fun u H => OSceneB u (doEdit s e) (decide (doEditOk s e)) H) W := by
  have hvf := hv.form
  obtain ⟨va, vc, rfl⟩ := hvf
  have hdf := hd.form
  obtain ⟨da, dc, rfl⟩ := hdf
  have hil := index_lt s.ss e.Id
  have hlen := hok.2.2.2.1
  have hidx : ∀ w, RS eSurf w (.slice va s.ss.length vc) s.ss → SYields Try.prog 41 #[vScene s (.slice va s.ss.length vc), .int .i64 e.Id] (.int .i64 (k : Int)) w := fun w hh => by rw [← hi]; exact c_ssurfaceIndex s _ _ w hh
  have hed : editable s e := .inl hk
  have hes : edited s e = { s with ss := s.ss ++ [added e] } := edited_add hk
  have hsc : ∀ w v', RS eSurf w v' (s.ss ++ [added e]) → SYields Try.prog 84 #[.agg #[.int .i64 s.W, .int .i64 s.H, .int .i64 s.Back, v']] (.bool (decide (edited s e).ok)) w := fun w v' hh => by rw [hes]; exact c_ssceneOk { s with ss := s.ss ++ [added e] } v' w hh
  have hcp : ∀ w v', (edited s e).ok → RS eSurf w v' (s.ss ++ [added e]) → SYieldsF Try.prog 74 #[.agg #[.int .i64 s.W, .int .i64 s.H, .int .i64 s.Back, v']] (fun u H => OScene u (edited s e) H) w := fun w v' hh hh2 => by rw [hes] at hh ⊢; exact c_l10Copy { s with ss := s.ss ++ [added e] } v' w hh2 (scene_len hh)
  (first | apply SYields.mk | apply SYieldsF.mk | skip); refine s_enter Try.func75 rfl Try.ntmps75 rfl ?_
  repeat' (first | exact rfl | (apply kO; (first | exact ov_pure rfl | (apply kOBin; (first | exact aBin)) | (apply kOCall; (first | (apply kCallF; (first | exact (ov_call rfl (fun w hw => hsc w _ (rd_add hv7 hT h2 (OInts.reads hu5 (hfA hw)) (hfA hw) (hfA hw)))) | exact (ov_call rfl (fun w hw => c_ssceneOk s _ w (hv.keep (hw.cells rfl)))) | exact (ov_call rfl (fun w hw => hidx w (hv.keep (hw.cells rfl)))) | exact (ov_call rfl (fun w hw => c_l01In _ _ _ w)))) | (apply kCallB; (first | exact aBlt | exact aLenR)))) | (apply kOLoad; (first | exact (ov_ldRZ (fun w hw => trow h1 (hfA hw)) rfl rfl (by omega) rfl) | exact aLdF | exact aLdR)) | exact ov_fieldAddr rfl | (apply kOIdx; (first | exact (ov_idxR (fun w hw => trow h1 (hfA hw)) rfl rfl (by omega)) | exact aIdx)) | exact aRest | exact aNew | exact (ov_field1 (ft := 37) rfl rfl rfl rfl))) | (refine kN ?_; (first | (refine kCall ?_; (first | (refine kWFn 74 ?_; (refine s_callF (fun u H => OScene u (edited s e) H) rfl (fun w hw => hcp w _ (by assumption) (rd_add hv7 hT h2 (OInts.reads hu5 (hfA hw)) (hfA hw) (hfA hw))) rfl (fun u H9 hu9 => ?_); obtain ⟨v9, rfl, hu9⟩ := hu9; have f1 := hu9.form; obtain ⟨_, _, rfl⟩ := f1)) | (refine kWFn 74 ?_; (refine s_callF (fun u H => OScene u s H) rfl (fun w hw => c_l10Copy s _ w (hv.keep (hw.cells rfl)) hl) rfl (fun u H hu => ?_); obtain ⟨v6, rfl, hu⟩ := hu)) | (refine kWApp ?_; (refine s_appendT _ _ (T.getD j.1 dT) rfl rfl hj2 gpA gpA (eSurf_ones (OInts.one (show OInts _ _ _ _ from h2 _ (getT_mem (by omega))))) (by rw [scells_eq]; rfl) (by have := hel2 j.1; omega) (by decide) rfl (fun v' H' hv' => ?_); have f1 := OVec.form hv'; obtain ⟨ua, uc, rfl⟩ := f1)) | (refine kWFn 153 ?_; (refine s_callF (fun u H => OImg u e.buf H) rfl (fun w hw => c_l05Copy e.buf _ w (hd.keep (hw.cells rfl)) hel) rfl (fun u H5 hu5 => ?_); obtain ⟨d', rfl, hu5⟩ := hu5; have f1 := hu5.form; obtain ⟨_, _, rfl⟩ := f1)) | (refine kWApp ?_; (refine s_appendT _ _ (added e, _, H5) rfl rfl h1 gpA gpA (eSurf_ones (OInts.one (show OInts _ _ _ _ from hu5))) (by rw [scells_eq]; rfl) (by omega) (by decide) rfl (fun v7 H7 hv7 => ?_); have f1 := OVec.form hv7; obtain ⟨ua, uc, rfl⟩ := f1)) | apply s_step)) | (refine kStore ?_; (first | (refine s_storeS _ rfl rfl gpA rfl (ones_cons rfl (ones_cons rfl (ones_cons rfl (ones_cons (OElems.one (by assumption)) rfl)))) (by rfl) ?_) | refine s_store1 _ rfl rfl gpA rfl (by rfl) ?_ | refine s_storeS _ rfl rfl gpA rfl rfl (by rfl) ?_ | refine s_storeS _ rfl rfl gpA rfl (ones_img oiA) (by rfl) ?_)) | refine s_boxS rfl rfl (fun b hb => ?_) | refine s_allocS rfl (fun b hb => ?_) | refine s_box1 rfl rfl rfl (fun b hb => ?_) | refine s_alloc1 rfl rfl (fun b hb => ?_) | refine s_buildSlice0 rfl (fun b hb => ?_) | refine s_buildSlice rfl rfl rfl rfl rfl (fun b hb => ?_) | apply s_step)) | (refine kG ?_; (first | refine s_gyes rfl rfl rfl ?_ | refine s_gno rfl rfl rfl rfl rfl ?_ | ((first | refine s_split_d rfl rfl (fun h => ?_) (fun h => ?_) | refine s_split_n rfl rfl (fun h => ?_) (fun h => ?_)) <;> (try (first | contradiction | (exfalso; omega) | (exfalso; exact absurd hok (by assumption)) | (exfalso; omega)))) | refine s_split_nb rfl rfl (fun h => ?_) (fun h => ?_) | refine s_split rfl rfl (fun h => ?_) (fun h => ?_))) | (refine kS ?_; (first | refine h_exec rfl ?_ | refine h_take_nil rfl rfl rfl ?_ | refine h_take_pick rfl rfl rfl ?_ | refine h_nil ?_ | refine h_alt ?_ ?_ | apply h_take)) | (refine kBack ?_; (first | refine h_back_last rfl ?_ | refine h_backN rfl subA ?_)) | refine l_then ?_ | (refine kC ?_; (first | (refine kReg 10 ?_; refine c_regionSubN (SPlan.take 0 (SPlan.take 1 (SPlan.take 2 (SPlan.take 3 (SPlan.take 4 (SPlan.take 5 (SPlan.take 6 (SPlan.run 7 (SPlan.run 8 (SPlan.take 9 (SPlan.run 10 SPlan.done))))))))))) (some 10) [true, true, true, true, false, true, true, true] rfl rfl rfl (by decide +kernel) ?_) | (refine kReg 14 ?_; refine c_regionSubN (SPlan.take 0 (SPlan.take 1 (SPlan.take 2 (SPlan.take 3 (SPlan.take 4 (SPlan.take 5 (SPlan.take 6 (SPlan.take 7 (SPlan.take 8 (SPlan.take 9 (SPlan.run 10 (SPlan.take 11 (SPlan.run 12 (SPlan.run 13 (SPlan.take 14 (SPlan.run 15 SPlan.done)))))))))))))))) (some 15) [true, true, false, true, true, true, true, true] rfl rfl rfl (by decide +kernel) ?_) | (refine kLoop 7 ?_; obtain ⟨T, H0, G, hT, h1, h2, rfl⟩ := OElems.tri hu; have hTl : T.length = s.ss.length := (by rw [← hT, List.length_map]); obtain ⟨b0, cap, r, rfl, rfl, h4, h5, h6, h7⟩ := (ovec_split h1).resolve_left (fun hh => (by have := hh.2.1; omega)); have hat : EdAt s k T b0 cap r := ⟨hT, by omega, h2, h5, h6, h7⟩; have hln := hat.len; have hel2 := fun i => eraseTo_length T k i; refine cc_perm (L := [?pa, ?pb, [(b0, srow (tcells eSurf T ++ r) 62)] ++ (tpiece T ++ G), ?pc, ?pd, ?pe]) (L' := [?pa, ?pb, [(b0, srow (tcells eSurf T ++ r) 62)], tpiece T ++ G, [], ?pc, ?pd, ?pe]) (by simp) ?_; refine c_loopV (ι := Nat × Value × SPiece) (fun j => j.1 ≤ T.length ∧ OVec eSurf.k 62 j.2.1 (eraseTo T k j.1).length (tcells eSurf (eraseTo T k j.1)) j.2.2) (fun j => [(9, .int .i64 (j.1 : Int))]) (fun j => [[(_, srow [.int .i64 0, .int .i64 0, .int .i64 0, j.2.1] 26)], _, _, _, j.2.2, _, _, _]) (fun j => T.length - j.1) (0, .slice none 0 0, []) ⟨by dsimp only; omega, by dsimp only; rw [eraseTo_zero, tnil]; exact OVec.nil⟩ rfl (fun _ => rfl) ⟨rfl, trivial⟩ (fun w hw => hw) (fun j hj => ?_); obtain ⟨hj1, hj2⟩ := hj) | refine c_seq ?_ | refine c_regionN rfl ?_ | refine c_ret ?_ | (refine kCond ?_; (first | refine c_cond_t rfl ?_ | refine c_cond_f rfl ?_ | ((first | refine c_cond_d rfl (fun h => ?_) (fun h => ?_) | refine c_cond_n rfl (fun h => ?_) (fun h => ?_)) <;> (try (first | contradiction | (exfalso; omega) | (exfalso; exact absurd hok (by assumption)) | (exfalso; omega)))) | refine c_cond_nb rfl (fun h => ?_) (fun h => ?_) | refine c_cond rfl (fun h => ?_) (fun h => ?_))) | refine c_block ?_ | refine c_skip ?_ | refine c_exit ?_ | refine c_regionQN rfl rfl (by decide +kernel) ?_)) | apply s_stepQ | (refine kQG ?_; (first | refine s_gyesQ rfl rfl rfl ?_ | refine s_gnoQ rfl rfl rfl rfl rfl ?_ | ((first | refine s_splitQ_d rfl rfl (fun h => ?_) (fun h => ?_) | refine s_splitQ_n rfl rfl (fun h => ?_) (fun h => ?_)) <;> (try (first | contradiction | (exfalso; omega) | (exfalso; exact absurd hok (by assumption)) | (exfalso; omega)))) | refine s_splitQ_nb rfl rfl (fun h => ?_) (fun h => ?_) | refine s_splitQ rfl rfl (fun h => ?_) (fun h => ?_))) | refine lQ_then ?_ | refine lQ_ends ?_ | (refine kE ?_; (first | refine e_then_r ?_ | refine e_block_r ?_ | refine e_then_n ?_ | refine e_then_x ?_ | refine e_block_n ?_ | refine e_block_x ?_ | refine e_block_y rfl ?_)) | refine l_ends ?_)
  · exact e_round (j.1 + 1, _, H') ⟨by dsimp only; omega, by dsimp only; rw [eraseTo_succ dT (by omega), if_neg (by omega)]; exact hv'⟩ ⟨rfl, (by repeat' first | exact trivial | refine ⟨rfl, ?_⟩)⟩ (fun w hw => hw.picks (by (repeat' first | exact Picks.nil | exact gp_hd | apply gp_tl | apply Picks.cons); done) (by rfl)) (by dsimp only; omega)
  · exact e_round (j.1 + 1, j.2.1, j.2.2) ⟨by dsimp only; omega, by dsimp only; rw [eraseTo_succ dT (by omega), if_pos (by omega), List.append_nil]; exact hj2⟩ ⟨rfl, (by repeat' first | exact trivial | refine ⟨rfl, ?_⟩)⟩ (fun w hw => hw.picks (by (repeat' first | exact Picks.nil | exact gp_hd | apply gp_tl | apply Picks.cons); done) (by rfl)) (by dsimp only; omega)
  all_goals first
    | (have hno : ¬ doEditOk s e := fun hh => absurd hh.2.2 (by assumption)
       rw [doEdit_no hno, decide_eq_false hno]
       exact s_leaveN rfl rfl (SRes.cellG rfl rfl fwA (.tmp rfl .nil)) (fun w hw => ⟨_, _, rfl, ⟨_, rfl, hu⟩, hw.toFresh (H := H) gpA⟩) .ret (.inl rfl))
    | (have hyes : doEditOk s e := ⟨hok, hed, by assumption⟩
       rw [doEdit_yes hyes, decide_eq_true hyes]
       exact s_leaveN rfl rfl (SRes.cellG rfl rfl fwA (.tmp rfl .nil)) (fun w hw => ⟨_, _, rfl, ⟨_, rfl, hu9⟩, hw.toFresh (H := H9) gpA⟩) .ret (.inl rfl))
end Go.Proofs.Ytakijgpoaeggnaa
namespace Go.Proofs.Ytakijgpoaeggnaa
open Go Sx
attribute [local irreducible] Exit.then Exit.inBlock bodyPost tcells OInts OElems
set_option maxHeartbeats 4000000 in
theorem c_sdoEditDel (k : Nat) (s : DScene) (e : DEdit) (v d : Value) (W : World) (hv : RS eSurf W v s.ss) (hd : RInts W d e.buf.data) (hl : surfsLen s.ss ≤ 2000000) (hel : e.buf.data.length ≤ 1000000000) (hok : s.ok) (hk : e.Kind = 1) (hi : surfaceIndex s.ss e.Id = (k : Int)) : SYieldsF Try.prog 75 #[vScene s v, vEdit e d] (fun u H => OSceneB u (doEdit s e) (decide (doEditOk s e)) H) W := by
  have hvf := hv.form
  obtain ⟨va, vc, rfl⟩ := hvf
  have hdf := hd.form
  obtain ⟨da, dc, rfl⟩ := hdf
  have hil := index_lt s.ss e.Id
  have hlen := hok.2.2.2.1
  have hidx : ∀ w, RS eSurf w (.slice va s.ss.length vc) s.ss → SYields Try.prog 41 #[vScene s (.slice va s.ss.length vc), .int .i64 e.Id] (.int .i64 (k : Int)) w := fun w hh => by rw [← hi]; exact c_ssurfaceIndex s _ _ w hh
  have hed : editable s e := .inr (.inr ⟨by omega, by omega⟩)
  have hes : edited s e = { s with ss := s.ss.eraseIdx k } := (by rw [edited_k ⟨by omega, by omega⟩, editK_remove hk, hi, Int.toNat_natCast])
  have hsc : ∀ w v', RS eSurf w v' (s.ss.eraseIdx k) → SYields Try.prog 84 #[.agg #[.int .i64 s.W, .int .i64 s.H, .int .i64 s.Back, v']] (.bool (decide (edited s e).ok)) w := fun w v' hh => by rw [hes]; exact c_ssceneOk { s with ss := s.ss.eraseIdx k } v' w hh
  have hcp : ∀ w v', (edited s e).ok → RS eSurf w v' (s.ss.eraseIdx k) → SYieldsF Try.prog 74 #[.agg #[.int .i64 s.W, .int .i64 s.H, .int .i64 s.Back, v']] (fun u H => OScene u (edited s e) H) w := fun w v' hh hh2 => by rw [hes] at hh ⊢; exact c_l10Copy { s with ss := s.ss.eraseIdx k } v' w hh2 (scene_len hh)
  (first | apply SYields.mk | apply SYieldsF.mk | skip); refine s_enter Try.func75 rfl Try.ntmps75 rfl ?_
  repeat' (first | exact rfl | (apply kO; (first | exact ov_pure rfl | (apply kOBin; (first | exact aBin)) | (apply kOCall; (first | (apply kCallF; (first | exact (ov_call rfl (fun w hw => hsc w _ (rd_del hj2 hT h2 (by omega) (hfA hw) (hfA hw)))) | exact (ov_call rfl (fun w hw => c_ssceneOk s _ w (hv.keep (hw.cells rfl)))) | exact (ov_call rfl (fun w hw => hidx w (hv.keep (hw.cells rfl)))) | exact (ov_call rfl (fun w hw => c_l01In _ _ _ w)))) | (apply kCallB; (first | exact aBlt | exact aLenR)))) | (apply kOLoad; (first | exact (ov_ldRZ (fun w hw => trow h1 (hfA hw)) rfl rfl (by omega) rfl) | exact aLdF | exact aLdR)) | exact ov_fieldAddr rfl | (apply kOIdx; (first | exact (ov_idxR (fun w hw => trow h1 (hfA hw)) rfl rfl (by omega)) | exact aIdx)) | exact aRest | exact aNew | exact (ov_field1 (ft := 37) rfl rfl rfl rfl))) | (refine kN ?_; (first | (refine kCall ?_; (first | (refine kWFn 74 ?_; (refine s_callF (fun u H => OScene u (edited s e) H) rfl (fun w hw => hcp w _ (by assumption) (rd_del hj2 hT h2 (by omega) (hfA hw) (hfA hw))) rfl (fun u H9 hu9 => ?_); obtain ⟨v9, rfl, hu9⟩ := hu9; have f1 := hu9.form; obtain ⟨_, _, rfl⟩ := f1)) | (refine kWFn 74 ?_; (refine s_callF (fun u H => OScene u s H) rfl (fun w hw => c_l10Copy s _ w (hv.keep (hw.cells rfl)) hl) rfl (fun u H hu => ?_); obtain ⟨v6, rfl, hu⟩ := hu)) | (refine kWApp ?_; (refine s_appendT _ _ (T.getD j.1 dT) rfl rfl hj2 gpA gpA (eSurf_ones (OInts.one (show OInts _ _ _ _ from h2 _ (getT_mem (by omega))))) (by rw [scells_eq]; rfl) (by have := hel2 j.1; omega) (by decide) rfl (fun v' H' hv' => ?_); have f1 := OVec.form hv'; obtain ⟨ua, uc, rfl⟩ := f1)) | apply s_step)) | (refine kStore ?_; (first | (refine s_storeS _ rfl rfl gpA rfl (ones_cons rfl (ones_cons rfl (ones_cons rfl (ones_cons (OElems.one (by assumption)) rfl)))) (by rfl) ?_) | (refine s_store1 _ rfl rfl gpA (OVec.one hj2) (by rfl) ?_) | refine s_store1 _ rfl rfl gpA rfl (by rfl) ?_ | refine s_storeS _ rfl rfl gpA rfl rfl (by rfl) ?_ | refine s_storeS _ rfl rfl gpA rfl (ones_img oiA) (by rfl) ?_)) | refine s_boxS rfl rfl (fun b hb => ?_) | refine s_allocS rfl (fun b hb => ?_) | refine s_box1 rfl rfl rfl (fun b hb => ?_) | refine s_alloc1 rfl rfl (fun b hb => ?_) | refine s_buildSlice0 rfl (fun b hb => ?_) | refine s_buildSlice rfl rfl rfl rfl rfl (fun b hb => ?_) | apply s_step)) | (refine kG ?_; (first | refine s_gyes rfl rfl rfl ?_ | refine s_gno rfl rfl rfl rfl rfl ?_ | ((first | refine s_split_d rfl rfl (fun h => ?_) (fun h => ?_) | refine s_split_n rfl rfl (fun h => ?_) (fun h => ?_)) <;> (try (first | contradiction | (exfalso; omega) | (exfalso; exact absurd hok (by assumption)) | (exfalso; omega)))) | refine s_split_nb rfl rfl (fun h => ?_) (fun h => ?_) | refine s_split rfl rfl (fun h => ?_) (fun h => ?_))) | (refine kS ?_; (first | refine h_exec rfl ?_ | refine h_take_nil rfl rfl rfl ?_ | refine h_take_pick rfl rfl rfl ?_ | refine h_nil ?_ | refine h_alt ?_ ?_ | apply h_take)) | (refine kBack ?_; (first | refine h_back_last rfl ?_ | refine h_backN rfl subA ?_)) | refine l_then ?_ | (refine kC ?_; (first | (refine kReg 10 ?_; refine c_regionSubN (SPlan.take 0 (SPlan.take 1 (SPlan.take 2 (SPlan.take 3 (SPlan.take 4 (SPlan.take 5 (SPlan.take 6 (SPlan.run 7 (SPlan.run 8 (SPlan.take 9 (SPlan.run 10 SPlan.done))))))))))) (some 10) [true, true, true, true, false, true, true, true] rfl rfl rfl (by decide +kernel) ?_) | (refine kLoop 7 ?_; obtain ⟨T, H0, G, hT, h1, h2, rfl⟩ := OElems.tri hu; have hTl : T.length = s.ss.length := (by rw [← hT, List.length_map]); obtain ⟨b0, cap, r, rfl, rfl, h4, h5, h6, h7⟩ := (ovec_split h1).resolve_left (fun hh => (by have := hh.2.1; omega)); have hat : EdAt s k T b0 cap r := ⟨hT, by omega, h2, h5, h6, h7⟩; have hln := hat.len; have hel2 := fun i => eraseTo_length T k i; refine cc_perm (L := [?pa, ?pb, [(b0, srow (tcells eSurf T ++ r) 62)] ++ (tpiece T ++ G), ?pc, ?pd, ?pe]) (L' := [?pa, ?pb, [(b0, srow (tcells eSurf T ++ r) 62)], tpiece T ++ G, [], ?pc, ?pd, ?pe]) (by simp) ?_; refine c_loopV (ι := Nat × Value × SPiece) (fun j => j.1 ≤ T.length ∧ OVec eSurf.k 62 j.2.1 (eraseTo T k j.1).length (tcells eSurf (eraseTo T k j.1)) j.2.2) (fun j => [(9, .int .i64 (j.1 : Int))]) (fun j => [[(_, srow [.int .i64 0, .int .i64 0, .int .i64 0, j.2.1] 26)], _, _, _, j.2.2, _, _, _]) (fun j => T.length - j.1) (0, .slice none 0 0, []) ⟨by dsimp only; omega, by dsimp only; rw [eraseTo_zero, tnil]; exact OVec.nil⟩ rfl (fun _ => rfl) ⟨rfl, trivial⟩ (fun w hw => hw) (fun j hj => ?_); obtain ⟨hj1, hj2⟩ := hj) | refine c_seq ?_ | refine c_regionN rfl ?_ | refine c_ret ?_ | (refine kCond ?_; (first | refine c_cond_t rfl ?_ | refine c_cond_f rfl ?_ | ((first | refine c_cond_d rfl (fun h => ?_) (fun h => ?_) | refine c_cond_n rfl (fun h => ?_) (fun h => ?_)) <;> (try (first | contradiction | (exfalso; omega) | (exfalso; exact absurd hok (by assumption)) | (exfalso; omega)))) | refine c_cond_nb rfl (fun h => ?_) (fun h => ?_) | refine c_cond rfl (fun h => ?_) (fun h => ?_))) | refine c_block ?_ | refine c_skip ?_ | refine c_exit ?_ | refine c_regionQN rfl rfl (by decide +kernel) ?_)) | apply s_stepQ | (refine kQG ?_; (first | refine s_gyesQ rfl rfl rfl ?_ | refine s_gnoQ rfl rfl rfl rfl rfl ?_ | ((first | refine s_splitQ_d rfl rfl (fun h => ?_) (fun h => ?_) | refine s_splitQ_n rfl rfl (fun h => ?_) (fun h => ?_)) <;> (try (first | contradiction | (exfalso; omega) | (exfalso; exact absurd hok (by assumption)) | (exfalso; omega)))) | refine s_splitQ_nb rfl rfl (fun h => ?_) (fun h => ?_) | refine s_splitQ rfl rfl (fun h => ?_) (fun h => ?_))) | refine lQ_then ?_ | refine lQ_ends ?_ | (refine kE ?_; (first | refine e_then_r ?_ | refine e_block_r ?_ | refine e_then_n ?_ | refine e_then_x ?_ | refine e_block_n ?_ | refine e_block_x ?_ | refine e_block_y rfl ?_)) | refine l_ends ?_)
  · exact e_round (j.1 + 1, _, H') ⟨by dsimp only; omega, by dsimp only; rw [eraseTo_succ dT (by omega), if_neg (by omega)]; exact hv'⟩ ⟨rfl, (by repeat' first | exact trivial | refine ⟨rfl, ?_⟩)⟩ (fun w hw => hw.picks (by (repeat' first | exact Picks.nil | exact gp_hd | apply gp_tl | apply Picks.cons); done) (by rfl)) (by dsimp only; omega)
  · exact e_round (j.1 + 1, j.2.1, j.2.2) ⟨by dsimp only; omega, by dsimp only; rw [eraseTo_succ dT (by omega), if_pos (by omega), List.append_nil]; exact hj2⟩ ⟨rfl, (by repeat' first | exact trivial | refine ⟨rfl, ?_⟩)⟩ (fun w hw => hw.picks (by (repeat' first | exact Picks.nil | exact gp_hd | apply gp_tl | apply Picks.cons); done) (by rfl)) (by dsimp only; omega)
  all_goals first
    | (have hno : ¬ doEditOk s e := fun hh => absurd hh.2.2 (by assumption)
       rw [doEdit_no hno, decide_eq_false hno]
       exact s_leaveN rfl rfl (SRes.cellG rfl rfl fwA (.tmp rfl .nil)) (fun w hw => ⟨_, _, rfl, ⟨_, rfl, hu⟩, hw.toFresh (H := H) gpA⟩) .ret (.inl rfl))
    | (have hyes : doEditOk s e := ⟨hok, hed, by assumption⟩
       rw [doEdit_yes hyes, decide_eq_true hyes]
       exact s_leaveN rfl rfl (SRes.cellG rfl rfl fwA (.tmp rfl .nil)) (fun w hw => ⟨_, _, rfl, ⟨_, rfl, hu9⟩, hw.toFresh (H := H9) gpA⟩) .ret (.inl rfl))
end Go.Proofs.Ytakijgpoaeggnaa
namespace Go.Proofs.Ytakijgpoaeggnaa
open Go Sx
attribute [local irreducible] Exit.then Exit.inBlock bodyPost tcells OInts OElems
set_option maxHeartbeats 4000000 in
theorem c_sdoEditRaise (k : Nat) (s : DScene) (e : DEdit) (v d : Value) (W : World) (hv : RS eSurf W v s.ss) (hd : RInts W d e.buf.data) (hl : surfsLen s.ss ≤ 2000000) (hel : e.buf.data.length ≤ 1000000000) (hok : s.ok) (hk : e.Kind = 3) (hi : surfaceIndex s.ss e.Id = (k : Int)) : SYieldsF Try.prog 75 #[vScene s v, vEdit e d] (fun u H => OSceneB u (doEdit s e) (decide (doEditOk s e)) H) W := by
  have hvf := hv.form
  obtain ⟨va, vc, rfl⟩ := hvf
  have hdf := hd.form
  obtain ⟨da, dc, rfl⟩ := hdf
  have hil := index_lt s.ss e.Id
  have hlen := hok.2.2.2.1
  have hidx : ∀ w, RS eSurf w (.slice va s.ss.length vc) s.ss → SYields Try.prog 41 #[vScene s (.slice va s.ss.length vc), .int .i64 e.Id] (.int .i64 (k : Int)) w := fun w hh => by rw [← hi]; exact c_ssurfaceIndex s _ _ w hh
  have hed : editable s e := .inr (.inr ⟨by omega, by omega⟩)
  have hes : edited s e = { s with ss := s.ss.eraseIdx k ++ [s.ss.getD k default] } := (by rw [edited_k ⟨by omega, by omega⟩, editK_raise hk, hi, Int.toNat_natCast])
  have hsc : ∀ w v', RS eSurf w v' (s.ss.eraseIdx k ++ [s.ss.getD k default]) → SYields Try.prog 84 #[.agg #[.int .i64 s.W, .int .i64 s.H, .int .i64 s.Back, v']] (.bool (decide (edited s e).ok)) w := fun w v' hh => by rw [hes]; exact c_ssceneOk { s with ss := s.ss.eraseIdx k ++ [s.ss.getD k default] } v' w hh
  have hcp : ∀ w v', (edited s e).ok → RS eSurf w v' (s.ss.eraseIdx k ++ [s.ss.getD k default]) → SYieldsF Try.prog 74 #[.agg #[.int .i64 s.W, .int .i64 s.H, .int .i64 s.Back, v']] (fun u H => OScene u (edited s e) H) w := fun w v' hh hh2 => by rw [hes] at hh ⊢; exact c_l10Copy { s with ss := s.ss.eraseIdx k ++ [s.ss.getD k default] } v' w hh2 (scene_len hh)
  (first | apply SYields.mk | apply SYieldsF.mk | skip); refine s_enter Try.func75 rfl Try.ntmps75 rfl ?_
  repeat' (first | exact rfl | (apply kO; (first | exact ov_pure rfl | (apply kOBin; (first | exact aBin)) | (apply kOCall; (first | (apply kCallF; (first | exact (ov_call rfl (fun w hw => hsc w _ (rd_up hv7 (by omega) hT h2 (by omega) (hfA hw) (hfA hw)))) | exact (ov_call rfl (fun w hw => c_ssceneOk s _ w (hv.keep (hw.cells rfl)))) | exact (ov_call rfl (fun w hw => hidx w (hv.keep (hw.cells rfl)))) | exact (ov_call rfl (fun w hw => c_l01In _ _ _ w)))) | (apply kCallB; (first | exact aBlt | exact aLenR)))) | (apply kOLoad; (first | exact (ov_ldRZ (fun w hw => trow h1 (hfA hw)) rfl rfl (by omega) rfl) | exact aLdF | exact aLdR)) | exact ov_fieldAddr rfl | (apply kOIdx; (first | exact (ov_idxR (fun w hw => trow h1 (hfA hw)) rfl rfl (by omega)) | exact aIdx)) | exact aRest | exact aNew | exact (ov_field1 (ft := 37) rfl rfl rfl rfl))) | (refine kN ?_; (first | (refine kCall ?_; (first | (refine kWFn 74 ?_; (refine s_callF (fun u H => OScene u (edited s e) H) rfl (fun w hw => hcp w _ (by assumption) (rd_up hv7 (by omega) hT h2 (by omega) (hfA hw) (hfA hw))) rfl (fun u H9 hu9 => ?_); obtain ⟨v9, rfl, hu9⟩ := hu9; have f1 := hu9.form; obtain ⟨_, _, rfl⟩ := f1)) | (refine kWFn 74 ?_; (refine s_callF (fun u H => OScene u s H) rfl (fun w hw => c_l10Copy s _ w (hv.keep (hw.cells rfl)) hl) rfl (fun u H hu => ?_); obtain ⟨v6, rfl, hu⟩ := hu)) | (refine kWApp ?_; (refine s_appendT _ _ (T.getD j.1 dT) rfl rfl hj2 gpA gpA (eSurf_ones (OInts.one (show OInts _ _ _ _ from h2 _ (getT_mem (by omega))))) (by rw [scells_eq]; rfl) (by have := hel2 j.1; omega) (by decide) rfl (fun v' H' hv' => ?_); have f1 := OVec.form hv'; obtain ⟨ua, uc, rfl⟩ := f1)) | (refine kWApp ?_; (refine s_appendT _ _ (T.getD k dT) rfl rfl hj2 gpA gpA (eSurf_ones (OInts.one (show OInts _ _ _ _ from h2 _ (getT_mem (by omega))))) (by rw [scells_eq]; rfl) (by have := hel2 j.1; omega) (by decide) rfl (fun v7 H7 hv7 => ?_); have f1 := OVec.form hv7; obtain ⟨ua, uc, rfl⟩ := f1)) | apply s_step)) | (refine kStore ?_; (first | (refine s_storeS _ rfl rfl gpA rfl (ones_cons rfl (ones_cons rfl (ones_cons rfl (ones_cons (OElems.one (by assumption)) rfl)))) (by rfl) ?_) | refine s_store1 _ rfl rfl gpA rfl (by rfl) ?_ | refine s_storeS _ rfl rfl gpA rfl rfl (by rfl) ?_ | refine s_storeS _ rfl rfl gpA rfl (ones_img oiA) (by rfl) ?_)) | refine s_boxS rfl rfl (fun b hb => ?_) | refine s_allocS rfl (fun b hb => ?_) | refine s_box1 rfl rfl rfl (fun b hb => ?_) | refine s_alloc1 rfl rfl (fun b hb => ?_) | refine s_buildSlice0 rfl (fun b hb => ?_) | refine s_buildSlice rfl rfl rfl rfl rfl (fun b hb => ?_) | apply s_step)) | (refine kG ?_; (first | refine s_gyes rfl rfl rfl ?_ | refine s_gno rfl rfl rfl rfl rfl ?_ | ((first | refine s_split_d rfl rfl (fun h => ?_) (fun h => ?_) | refine s_split_n rfl rfl (fun h => ?_) (fun h => ?_)) <;> (try (first | contradiction | (exfalso; omega) | (exfalso; exact absurd hok (by assumption)) | (exfalso; omega)))) | refine s_split_nb rfl rfl (fun h => ?_) (fun h => ?_) | refine s_split rfl rfl (fun h => ?_) (fun h => ?_))) | (refine kS ?_; (first | refine h_exec rfl ?_ | refine h_take_nil rfl rfl rfl ?_ | refine h_take_pick rfl rfl rfl ?_ | refine h_nil ?_ | refine h_alt ?_ ?_ | apply h_take)) | (refine kBack ?_; (first | refine h_back_last rfl ?_ | refine h_backN rfl subA ?_)) | refine l_then ?_ | (refine kC ?_; (first | (refine kReg 10 ?_; refine c_regionSubN (SPlan.take 0 (SPlan.take 1 (SPlan.take 2 (SPlan.take 3 (SPlan.take 4 (SPlan.take 5 (SPlan.take 6 (SPlan.run 7 (SPlan.run 8 (SPlan.take 9 (SPlan.run 10 SPlan.done))))))))))) (some 10) [true, true, true, true, false, true, true, true] rfl rfl rfl (by decide +kernel) ?_) | (refine kReg 21 ?_; refine c_regionSubN (SPlan.take 0 (SPlan.take 1 (SPlan.take 2 (SPlan.take 3 (SPlan.take 4 (SPlan.take 5 (SPlan.take 6 (SPlan.run 7 (SPlan.run 8 (SPlan.take 9 (SPlan.run 10 SPlan.done))))))))))) (some 10) [true, true, true, true, false, true, true, true] rfl rfl rfl (by decide +kernel) ?_) | (refine kLoop 7 ?_; obtain ⟨T, H0, G, hT, h1, h2, rfl⟩ := OElems.tri hu; have hTl : T.length = s.ss.length := (by rw [← hT, List.length_map]); obtain ⟨b0, cap, r, rfl, rfl, h4, h5, h6, h7⟩ := (ovec_split h1).resolve_left (fun hh => (by have := hh.2.1; omega)); have hat : EdAt s k T b0 cap r := ⟨hT, by omega, h2, h5, h6, h7⟩; have hln := hat.len; have hel2 := fun i => eraseTo_length T k i; refine cc_perm (L := [?pa, ?pb, [(b0, srow (tcells eSurf T ++ r) 62)] ++ (tpiece T ++ G), ?pc, ?pd, ?pe]) (L' := [?pa, ?pb, [(b0, srow (tcells eSurf T ++ r) 62)], tpiece T ++ G, [], ?pc, ?pd, ?pe]) (by simp) ?_; refine c_loopV (ι := Nat × Value × SPiece) (fun j => j.1 ≤ T.length ∧ OVec eSurf.k 62 j.2.1 (eraseTo T k j.1).length (tcells eSurf (eraseTo T k j.1)) j.2.2) (fun j => [(9, .int .i64 (j.1 : Int))]) (fun j => [[(_, srow [.int .i64 0, .int .i64 0, .int .i64 0, j.2.1] 26)], _, _, _, j.2.2, _, _, _]) (fun j => T.length - j.1) (0, .slice none 0 0, []) ⟨by dsimp only; omega, by dsimp only; rw [eraseTo_zero, tnil]; exact OVec.nil⟩ rfl (fun _ => rfl) ⟨rfl, trivial⟩ (fun w hw => hw) (fun j hj => ?_); obtain ⟨hj1, hj2⟩ := hj) | refine c_seq ?_ | refine c_regionN rfl ?_ | refine c_ret ?_ | (refine kCond ?_; (first | refine c_cond_t rfl ?_ | refine c_cond_f rfl ?_ | ((first | refine c_cond_d rfl (fun h => ?_) (fun h => ?_) | refine c_cond_n rfl (fun h => ?_) (fun h => ?_)) <;> (try (first | contradiction | (exfalso; omega) | (exfalso; exact absurd hok (by assumption)) | (exfalso; omega)))) | refine c_cond_nb rfl (fun h => ?_) (fun h => ?_) | refine c_cond rfl (fun h => ?_) (fun h => ?_))) | refine c_block ?_ | refine c_skip ?_ | refine c_exit ?_ | refine c_regionQN rfl rfl (by decide +kernel) ?_)) | apply s_stepQ | (refine kQG ?_; (first | refine s_gyesQ rfl rfl rfl ?_ | refine s_gnoQ rfl rfl rfl rfl rfl ?_ | ((first | refine s_splitQ_d rfl rfl (fun h => ?_) (fun h => ?_) | refine s_splitQ_n rfl rfl (fun h => ?_) (fun h => ?_)) <;> (try (first | contradiction | (exfalso; omega) | (exfalso; exact absurd hok (by assumption)) | (exfalso; omega)))) | refine s_splitQ_nb rfl rfl (fun h => ?_) (fun h => ?_) | refine s_splitQ rfl rfl (fun h => ?_) (fun h => ?_))) | refine lQ_then ?_ | refine lQ_ends ?_ | (refine kE ?_; (first | refine e_then_r ?_ | refine e_block_r ?_ | refine e_then_n ?_ | refine e_then_x ?_ | refine e_block_n ?_ | refine e_block_x ?_ | refine e_block_y rfl ?_)) | refine l_ends ?_)
  · exact e_round (j.1 + 1, _, H') ⟨by dsimp only; omega, by dsimp only; rw [eraseTo_succ dT (by omega), if_neg (by omega)]; exact hv'⟩ ⟨rfl, (by repeat' first | exact trivial | refine ⟨rfl, ?_⟩)⟩ (fun w hw => hw.picks (by (repeat' first | exact Picks.nil | exact gp_hd | apply gp_tl | apply Picks.cons); done) (by rfl)) (by dsimp only; omega)
  · exact e_round (j.1 + 1, j.2.1, j.2.2) ⟨by dsimp only; omega, by dsimp only; rw [eraseTo_succ dT (by omega), if_pos (by omega), List.append_nil]; exact hj2⟩ ⟨rfl, (by repeat' first | exact trivial | refine ⟨rfl, ?_⟩)⟩ (fun w hw => hw.picks (by (repeat' first | exact Picks.nil | exact gp_hd | apply gp_tl | apply Picks.cons); done) (by rfl)) (by dsimp only; omega)
  all_goals first
    | (have hno : ¬ doEditOk s e := fun hh => absurd hh.2.2 (by assumption)
       rw [doEdit_no hno, decide_eq_false hno]
       exact s_leaveN rfl rfl (SRes.cellG rfl rfl fwA (.tmp rfl .nil)) (fun w hw => ⟨_, _, rfl, ⟨_, rfl, hu⟩, hw.toFresh (H := H) gpA⟩) .ret (.inl rfl))
    | (have hyes : doEditOk s e := ⟨hok, hed, by assumption⟩
       rw [doEdit_yes hyes, decide_eq_true hyes]
       exact s_leaveN rfl rfl (SRes.cellG rfl rfl fwA (.tmp rfl .nil)) (fun w hw => ⟨_, _, rfl, ⟨_, rfl, hu9⟩, hw.toFresh (H := H9) gpA⟩) .ret (.inl rfl))
end Go.Proofs.Ytakijgpoaeggnaa
namespace Go.Proofs.Ytakijgpoaeggnaa
open Go Sx
attribute [local irreducible] Exit.then Exit.inBlock bodyPost tcells OInts OElems
set_option maxHeartbeats 4000000 in
theorem c_sdoEditLower (k : Nat) (s : DScene) (e : DEdit) (v d : Value) (W : World) (hv : RS eSurf W v s.ss) (hd : RInts W d e.buf.data) (hl : surfsLen s.ss ≤ 2000000) (hel : e.buf.data.length ≤ 1000000000) (hok : s.ok) (hk : e.Kind = 4) (hi : surfaceIndex s.ss e.Id = (k : Int)) : SYieldsF Try.prog 75 #[vScene s v, vEdit e d] (fun u H => OSceneB u (doEdit s e) (decide (doEditOk s e)) H) W := by
  have hvf := hv.form
  obtain ⟨va, vc, rfl⟩ := hvf
  have hdf := hd.form
  obtain ⟨da, dc, rfl⟩ := hdf
  have hil := index_lt s.ss e.Id
  have hlen := hok.2.2.2.1
  have hidx : ∀ w, RS eSurf w (.slice va s.ss.length vc) s.ss → SYields Try.prog 41 #[vScene s (.slice va s.ss.length vc), .int .i64 e.Id] (.int .i64 (k : Int)) w := fun w hh => by rw [← hi]; exact c_ssurfaceIndex s _ _ w hh
  have hed : editable s e := .inr (.inr ⟨by omega, by omega⟩)
  have hes : edited s e = { s with ss := s.ss.getD k default :: s.ss.eraseIdx k } := (by rw [edited_k ⟨by omega, by omega⟩, editK_lower hk, hi, Int.toNat_natCast])
  have hsc : ∀ w v', RS eSurf w v' (s.ss.getD k default :: s.ss.eraseIdx k) → SYields Try.prog 84 #[.agg #[.int .i64 s.W, .int .i64 s.H, .int .i64 s.Back, v']] (.bool (decide (edited s e).ok)) w := fun w v' hh => by rw [hes]; exact c_ssceneOk { s with ss := s.ss.getD k default :: s.ss.eraseIdx k } v' w hh
  have hcp : ∀ w v', (edited s e).ok → RS eSurf w v' (s.ss.getD k default :: s.ss.eraseIdx k) → SYieldsF Try.prog 74 #[.agg #[.int .i64 s.W, .int .i64 s.H, .int .i64 s.Back, v']] (fun u H => OScene u (edited s e) H) w := fun w v' hh hh2 => by rw [hes] at hh ⊢; exact c_l10Copy { s with ss := s.ss.getD k default :: s.ss.eraseIdx k } v' w hh2 (scene_len hh)
  (first | apply SYields.mk | apply SYieldsF.mk | skip); refine s_enter Try.func75 rfl Try.ntmps75 rfl ?_
  repeat' (first | exact rfl | (apply kO; (first | exact ov_pure rfl | (apply kOBin; (first | exact aBin)) | (apply kOCall; (first | (apply kCallF; (first | exact (ov_call rfl (fun w hw => hsc w _ (rd_low hv7 (by omega) hT h2 (by omega) (hfA hw) (hfA hw)))) | exact (ov_call rfl (fun w hw => c_ssceneOk s _ w (hv.keep (hw.cells rfl)))) | exact (ov_call rfl (fun w hw => hidx w (hv.keep (hw.cells rfl)))) | exact (ov_call rfl (fun w hw => c_l01In _ _ _ w)))) | (apply kCallB; (first | exact aBlt | exact aLenR)))) | (apply kOLoad; (first | exact (ov_ldRZ (fun w hw => trow h1 (hfA hw)) rfl rfl (by omega) rfl) | exact aLdF | exact aLdR)) | exact ov_fieldAddr rfl | (apply kOIdx; (first | exact (ov_idxR (fun w hw => trow h1 (hfA hw)) rfl rfl (by omega)) | exact aIdx)) | exact aRest | exact aNew | exact (ov_field1 (ft := 37) rfl rfl rfl rfl))) | (refine kN ?_; (first | (refine kCall ?_; (first | (refine kWFn 74 ?_; (refine s_callF (fun u H => OScene u (edited s e) H) rfl (fun w hw => hcp w _ (by assumption) (rd_low hv7 (by omega) hT h2 (by omega) (hfA hw) (hfA hw))) rfl (fun u H9 hu9 => ?_); obtain ⟨v9, rfl, hu9⟩ := hu9; have f1 := hu9.form; obtain ⟨_, _, rfl⟩ := f1)) | (refine kWFn 74 ?_; (refine s_callF (fun u H => OScene u s H) rfl (fun w hw => c_l10Copy s _ w (hv.keep (hw.cells rfl)) hl) rfl (fun u H hu => ?_); obtain ⟨v6, rfl, hu⟩ := hu)) | (refine kWApp ?_; (refine s_appendT _ _ (T.getD j.1 dT) rfl rfl hj2 gpA gpA (eSurf_ones (OInts.one (show OInts _ _ _ _ from h2 _ (getT_mem (by omega))))) (by rw [scells_eq]; rfl) (by have := hel2 j.1; omega) (by decide) rfl (fun v' H' hv' => ?_); have f1 := OVec.form hv'; obtain ⟨ua, uc, rfl⟩ := f1)) | (refine kWApp ?_; (refine s_appendY _ _ (T.getD k dT) rfl rfl hj2 gpA gpA (tcells_ones (fun t ht => h2 t (eraseTo_sub ht))) (by rw [scells_eq]; rfl) (by have := hel2 j.1; omega) (by decide) rfl (fun v7 H7 hv7 => ?_); have f1 := OVec.form hv7; obtain ⟨ua, uc, rfl⟩ := f1)) | apply s_step)) | (refine kStore ?_; (first | (refine s_storeS _ rfl rfl gpA rfl (ones_cons rfl (ones_cons rfl (ones_cons rfl (ones_cons (OElems.one (by assumption)) rfl)))) (by rfl) ?_) | refine s_store1 _ rfl rfl gpA rfl (by rfl) ?_ | refine s_storeS _ rfl rfl gpA rfl rfl (by rfl) ?_ | refine s_storeS _ rfl rfl gpA rfl (ones_img oiA) (by rfl) ?_)) | refine s_boxS rfl rfl (fun b hb => ?_) | refine s_allocS rfl (fun b hb => ?_) | refine s_box1 rfl rfl rfl (fun b hb => ?_) | refine s_alloc1 rfl rfl (fun b hb => ?_) | refine s_buildSlice0 rfl (fun b hb => ?_) | refine s_buildSlice rfl rfl rfl rfl rfl (fun b hb => ?_) | apply s_step)) | (refine kG ?_; (first | refine s_gyes rfl rfl rfl ?_ | refine s_gno rfl rfl rfl rfl rfl ?_ | ((first | refine s_split_d rfl rfl (fun h => ?_) (fun h => ?_) | refine s_split_n rfl rfl (fun h => ?_) (fun h => ?_)) <;> (try (first | contradiction | (exfalso; omega) | (exfalso; exact absurd hok (by assumption)) | (exfalso; omega)))) | refine s_split_nb rfl rfl (fun h => ?_) (fun h => ?_) | refine s_split rfl rfl (fun h => ?_) (fun h => ?_))) | (refine kS ?_; (first | refine h_exec rfl ?_ | refine h_take_nil rfl rfl rfl ?_ | refine h_take_pick rfl rfl rfl ?_ | refine h_nil ?_ | refine h_alt ?_ ?_ | apply h_take)) | (refine kBack ?_; (first | refine h_back_last rfl ?_ | refine h_backN rfl subA ?_)) | refine l_then ?_ | (refine kC ?_; (first | (refine kReg 10 ?_; refine c_regionSubN (SPlan.take 0 (SPlan.take 1 (SPlan.take 2 (SPlan.take 3 (SPlan.take 4 (SPlan.take 5 (SPlan.take 6 (SPlan.run 7 (SPlan.run 8 (SPlan.take 9 (SPlan.run 10 SPlan.done))))))))))) (some 10) [true, true, true, true, false, true, true, true] rfl rfl rfl (by decide +kernel) ?_) | (refine kReg 23 ?_; refine c_regionSubN (SPlan.take 0 (SPlan.take 1 (SPlan.take 2 (SPlan.take 3 (SPlan.take 4 (SPlan.take 6 (SPlan.take 7 (SPlan.run 5 (SPlan.run 8 (SPlan.take 9 (SPlan.run 10 SPlan.done))))))))))) (some 10) [true, true, true, true, true, true, true, true] rfl rfl rfl (by decide +kernel) ?_) | (refine kLoop 7 ?_; obtain ⟨T, H0, G, hT, h1, h2, rfl⟩ := OElems.tri hu; have hTl : T.length = s.ss.length := (by rw [← hT, List.length_map]); obtain ⟨b0, cap, r, rfl, rfl, h4, h5, h6, h7⟩ := (ovec_split h1).resolve_left (fun hh => (by have := hh.2.1; omega)); have hat : EdAt s k T b0 cap r := ⟨hT, by omega, h2, h5, h6, h7⟩; have hln := hat.len; have hel2 := fun i => eraseTo_length T k i; refine cc_perm (L := [?pa, ?pb, [(b0, srow (tcells eSurf T ++ r) 62)] ++ (tpiece T ++ G), ?pc, ?pd, ?pe]) (L' := [?pa, ?pb, [(b0, srow (tcells eSurf T ++ r) 62)], tpiece T ++ G, [], ?pc, ?pd, ?pe]) (by simp) ?_; refine c_loopV (ι := Nat × Value × SPiece) (fun j => j.1 ≤ T.length ∧ OVec eSurf.k 62 j.2.1 (eraseTo T k j.1).length (tcells eSurf (eraseTo T k j.1)) j.2.2) (fun j => [(9, .int .i64 (j.1 : Int))]) (fun j => [[(_, srow [.int .i64 0, .int .i64 0, .int .i64 0, j.2.1] 26)], _, _, _, j.2.2, _, _, _]) (fun j => T.length - j.1) (0, .slice none 0 0, []) ⟨by dsimp only; omega, by dsimp only; rw [eraseTo_zero, tnil]; exact OVec.nil⟩ rfl (fun _ => rfl) ⟨rfl, trivial⟩ (fun w hw => hw) (fun j hj => ?_); obtain ⟨hj1, hj2⟩ := hj) | refine c_seq ?_ | refine c_regionN rfl ?_ | refine c_ret ?_ | (refine kCond ?_; (first | refine c_cond_t rfl ?_ | refine c_cond_f rfl ?_ | ((first | refine c_cond_d rfl (fun h => ?_) (fun h => ?_) | refine c_cond_n rfl (fun h => ?_) (fun h => ?_)) <;> (try (first | contradiction | (exfalso; omega) | (exfalso; exact absurd hok (by assumption)) | (exfalso; omega)))) | refine c_cond_nb rfl (fun h => ?_) (fun h => ?_) | refine c_cond rfl (fun h => ?_) (fun h => ?_))) | refine c_block ?_ | refine c_skip ?_ | refine c_exit ?_ | refine c_regionQN rfl rfl (by decide +kernel) ?_)) | apply s_stepQ | (refine kQG ?_; (first | refine s_gyesQ rfl rfl rfl ?_ | refine s_gnoQ rfl rfl rfl rfl rfl ?_ | ((first | refine s_splitQ_d rfl rfl (fun h => ?_) (fun h => ?_) | refine s_splitQ_n rfl rfl (fun h => ?_) (fun h => ?_)) <;> (try (first | contradiction | (exfalso; omega) | (exfalso; exact absurd hok (by assumption)) | (exfalso; omega)))) | refine s_splitQ_nb rfl rfl (fun h => ?_) (fun h => ?_) | refine s_splitQ rfl rfl (fun h => ?_) (fun h => ?_))) | refine lQ_then ?_ | refine lQ_ends ?_ | (refine kE ?_; (first | refine e_then_r ?_ | refine e_block_r ?_ | refine e_then_n ?_ | refine e_then_x ?_ | refine e_block_n ?_ | refine e_block_x ?_ | refine e_block_y rfl ?_)) | refine l_ends ?_)
  · exact e_round (j.1 + 1, _, H') ⟨by dsimp only; omega, by dsimp only; rw [eraseTo_succ dT (by omega), if_neg (by omega)]; exact hv'⟩ ⟨rfl, (by repeat' first | exact trivial | refine ⟨rfl, ?_⟩)⟩ (fun w hw => hw.picks (by (repeat' first | exact Picks.nil | exact gp_hd | apply gp_tl | apply Picks.cons); done) (by rfl)) (by dsimp only; omega)
  · exact e_round (j.1 + 1, j.2.1, j.2.2) ⟨by dsimp only; omega, by dsimp only; rw [eraseTo_succ dT (by omega), if_pos (by omega), List.append_nil]; exact hj2⟩ ⟨rfl, (by repeat' first | exact trivial | refine ⟨rfl, ?_⟩)⟩ (fun w hw => hw.picks (by (repeat' first | exact Picks.nil | exact gp_hd | apply gp_tl | apply Picks.cons); done) (by rfl)) (by dsimp only; omega)
  all_goals first
    | (have hno : ¬ doEditOk s e := fun hh => absurd hh.2.2 (by assumption)
       rw [doEdit_no hno, decide_eq_false hno]
       exact s_leaveN rfl rfl (SRes.cellG rfl rfl fwA (.tmp rfl .nil)) (fun w hw => ⟨_, _, rfl, ⟨_, rfl, hu⟩, hw.toFresh (H := H) gpA⟩) .ret (.inl rfl))
    | (have hyes : doEditOk s e := ⟨hok, hed, by assumption⟩
       rw [doEdit_yes hyes, decide_eq_true hyes]
       exact s_leaveN rfl rfl (SRes.cellG rfl rfl fwA (.tmp rfl .nil)) (fun w hw => ⟨_, _, rfl, ⟨_, rfl, hu9⟩, hw.toFresh (H := H9) gpA⟩) .ret (.inl rfl))
end Go.Proofs.Ytakijgpoaeggnaa
namespace Go.Proofs.Ytakijgpoaeggnaa
open Go Sx
attribute [local irreducible] Exit.then Exit.inBlock bodyPost tcells OInts OElems
set_option maxHeartbeats 4000000 in
theorem c_sdoEditBuf (k : Nat) (s : DScene) (e : DEdit) (v d : Value) (W : World) (hv : RS eSurf W v s.ss) (hd : RInts W d e.buf.data) (hl : surfsLen s.ss ≤ 2000000) (hel : e.buf.data.length ≤ 1000000000) (hok : s.ok) (hk : e.Kind = 5) (hi : surfaceIndex s.ss e.Id = (k : Int)) : SYieldsF Try.prog 75 #[vScene s v, vEdit e d] (fun u H => OSceneB u (doEdit s e) (decide (doEditOk s e)) H) W := by
  have hvf := hv.form
  obtain ⟨va, vc, rfl⟩ := hvf
  have hdf := hd.form
  obtain ⟨da, dc, rfl⟩ := hdf
  have hil := index_lt s.ss e.Id
  have hlen := hok.2.2.2.1
  have hidx : ∀ w, RS eSurf w (.slice va s.ss.length vc) s.ss → SYields Try.prog 41 #[vScene s (.slice va s.ss.length vc), .int .i64 e.Id] (.int .i64 (k : Int)) w := fun w hh => by rw [← hi]; exact c_ssurfaceIndex s _ _ w hh
  have hed : editable s e := .inr (.inr ⟨by omega, by omega⟩)
  have hes : edited s e = { s with ss := s.ss.set k { s.ss.getD k default with buf := e.buf } } := (by rw [edited_turn (by omega) hi]; unfold touched; rw [if_neg (by omega), if_pos (by omega)])
  have hsc : ∀ w v', RS eSurf w v' (s.ss.set k { s.ss.getD k default with buf := e.buf }) → SYields Try.prog 84 #[.agg #[.int .i64 s.W, .int .i64 s.H, .int .i64 s.Back, v']] (.bool (decide (edited s e).ok)) w := fun w v' hh => by rw [hes]; exact c_ssceneOk { s with ss := s.ss.set k { s.ss.getD k default with buf := e.buf } } v' w hh
  have hcp : ∀ w v', (edited s e).ok → RS eSurf w v' (s.ss.set k { s.ss.getD k default with buf := e.buf }) → SYieldsF Try.prog 74 #[.agg #[.int .i64 s.W, .int .i64 s.H, .int .i64 s.Back, v']] (fun u H => OScene u (edited s e) H) w := fun w v' hh hh2 => by rw [hes] at hh ⊢; exact c_l10Copy { s with ss := s.ss.set k { s.ss.getD k default with buf := e.buf } } v' w hh2 (scene_len hh)
  (first | apply SYields.mk | apply SYieldsF.mk | skip); refine s_enter Try.func75 rfl Try.ntmps75 rfl ?_
  repeat' (first | exact rfl | (apply kO; (first | exact ov_pure rfl | (apply kOBin; (first | exact aBin)) | (apply kOCall; (first | (apply kCallF; (first | exact (ov_call rfl (fun w hw => hsc w _ (rd_buf hat hu5 (hs5 _ _) (hfA hw) (hfA hw) (hfA hw)))) | exact (ov_call rfl (fun w hw => c_ssceneOk s _ w (hv.keep (hw.cells rfl)))) | exact (ov_call rfl (fun w hw => hidx w (hv.keep (hw.cells rfl)))) | exact (ov_call rfl (fun w hw => c_l01In _ _ _ w)))) | (apply kCallB; (first | exact aBlt | exact aLenR)))) | (apply kOLoad; (first | exact (ov_ldRZ (fun w hw => trow h1 (hfA hw)) rfl rfl (by omega) rfl) | exact aLdF | exact aLdR)) | exact ov_fieldAddr rfl | (apply kOIdx; (first | exact (ov_indexAddr rfl rfl (by omega)) | exact (ov_idxR (fun w hw => trow h1 (hfA hw)) rfl rfl (by omega)) | exact aIdx)) | exact aRest | exact aNew | exact (ov_field1 (ft := 37) rfl rfl rfl rfl))) | (refine kN ?_; (first | (refine kCall ?_; (first | (refine kWFn 74 ?_; (refine s_callF (fun u H => OScene u (edited s e) H) rfl (fun w hw => hcp w _ (by assumption) (rd_buf hat hu5 (hs5 _ _) (hfA hw) (hfA hw) (hfA hw))) rfl (fun u H9 hu9 => ?_); obtain ⟨v9, rfl, hu9⟩ := hu9; have f1 := hu9.form; obtain ⟨_, _, rfl⟩ := f1)) | (refine kWFn 74 ?_; (refine s_callF (fun u H => OScene u s H) rfl (fun w hw => c_l10Copy s _ w (hv.keep (hw.cells rfl)) hl) rfl (fun u H hu => ?_); obtain ⟨v6, rfl, hu⟩ := hu)) | (refine kWApp ?_; (refine s_appendT _ _ (T.getD j.1 dT) rfl rfl hj2 gpA gpA (eSurf_ones (OInts.one (show OInts _ _ _ _ from h2 _ (getT_mem (by omega))))) (by rw [scells_eq]; rfl) (by have := hel2 j.1; omega) (by decide) rfl (fun v' H' hv' => ?_); have f1 := OVec.form hv'; obtain ⟨ua, uc, rfl⟩ := f1)) | (refine kWFn 153 ?_; (refine s_callF (fun u H => OImg u e.buf H) rfl (fun w hw => c_l05Copy e.buf _ w (hd.keep (hw.cells rfl)) hel) rfl (fun u H5 hu5 => ?_); obtain ⟨d', rfl, hu5⟩ := hu5; have f1 := hu5.form; obtain ⟨_, _, rfl⟩ := f1)) | apply s_step)) | (refine kStore ?_; (first | (refine s_storeS _ rfl rfl gpA rfl (ones_cons rfl (ones_cons rfl (ones_cons rfl (ones_cons (OElems.one (by assumption)) rfl)))) (by rfl) ?_) | (refine s_setRS _ rfl rfl gpA rfl (ones_img oiA) (by rw [hln]; show _ + 3 ≤ _; omega) ?_) | refine s_store1 _ rfl rfl gpA rfl (by rfl) ?_ | refine s_storeS _ rfl rfl gpA rfl rfl (by rfl) ?_ | refine s_storeS _ rfl rfl gpA rfl (ones_img oiA) (by rfl) ?_)) | refine s_boxS rfl rfl (fun b hb => ?_) | refine s_allocS rfl (fun b hb => ?_) | refine s_box1 rfl rfl rfl (fun b hb => ?_) | refine s_alloc1 rfl rfl (fun b hb => ?_) | refine s_buildSlice0 rfl (fun b hb => ?_) | refine s_buildSlice rfl rfl rfl rfl rfl (fun b hb => ?_) | apply s_step)) | (refine kG ?_; (first | refine s_gyes rfl rfl rfl ?_ | refine s_gno rfl rfl rfl rfl rfl ?_ | ((first | refine s_split_d rfl rfl (fun h => ?_) (fun h => ?_) | refine s_split_n rfl rfl (fun h => ?_) (fun h => ?_)) <;> (try (first | contradiction | (exfalso; omega) | (exfalso; exact absurd hok (by assumption)) | (exfalso; omega)))) | refine s_split_nb rfl rfl (fun h => ?_) (fun h => ?_) | refine s_split rfl rfl (fun h => ?_) (fun h => ?_))) | (refine kS ?_; (first | refine h_exec rfl ?_ | refine h_take_nil rfl rfl rfl ?_ | refine h_take_pick rfl rfl rfl ?_ | refine h_nil ?_ | refine h_alt ?_ ?_ | apply h_take)) | (refine kBack ?_; (first | refine h_back_last rfl ?_ | refine h_backN rfl subA ?_)) | refine l_then ?_ | (refine kC ?_; (first | (refine kReg 10 ?_; refine c_regionSubN (SPlan.take 0 (SPlan.take 1 (SPlan.take 2 (SPlan.take 3 (SPlan.take 4 (SPlan.take 5 (SPlan.take 6 (SPlan.run 7 (SPlan.run 8 (SPlan.take 9 (SPlan.run 10 SPlan.done))))))))))) (some 10) [true, true, true, true, false, true, true, true] rfl rfl rfl (by decide +kernel) ?_) | (refine kReg 25 ?_; refine c_regionSubN (SPlan.take 0 (SPlan.take 1 (SPlan.take 2 (SPlan.take 3 (SPlan.take 4 (SPlan.run 5 (SPlan.take 6 (SPlan.take 7 (SPlan.run 8 SPlan.done))))))))) none [true, true, false, true, true, true, true, true] rfl rfl rfl (by decide +kernel) ?_) | (refine kLoop 7 ?_; obtain ⟨T, H0, G, hT, h1, h2, rfl⟩ := OElems.tri hu; have hTl : T.length = s.ss.length := (by rw [← hT, List.length_map]); obtain ⟨b0, cap, r, rfl, rfl, h4, h5, h6, h7⟩ := (ovec_split h1).resolve_left (fun hh => (by have := hh.2.1; omega)); have hat : EdAt s k T b0 cap r := ⟨hT, by omega, h2, h5, h6, h7⟩; have hln := hat.len; have hel2 := fun i => eraseTo_length T k i; have hs1 := fun (o : Nat) (u : Value) (a' : DSurf) (ho : o < 11) (he : (eSurf.cells (s.ss.getD k default) (T.getD k dT).2.1).set o u = eSurf.cells a' (T.getD k dT).2.1) => (show (tcells eSurf T ++ r).set (0 + ((k : Int)).toNat * 11 + o) u = tcells eSurf (T.set k (a', (T.getD k dT).2.1, (T.getD k dT).2.2)) ++ r from by rw [k11]; exact tcells_set (r := r) (show k < T.length from by omega) ho (by rw [hat.fst]; exact he)); have hs2 := fun (o o2 : Nat) (u u2 : Value) (a' : DSurf) (ho : o < 11) (ho2 : o2 < 11) (he : ((eSurf.cells (s.ss.getD k default) (T.getD k dT).2.1).set o u).set o2 u2 = eSurf.cells a' (T.getD k dT).2.1) => (show ((tcells eSurf T ++ r).set (0 + ((k : Int)).toNat * 11 + o) u).set (0 + ((k : Int)).toNat * 11 + o2) u2 = tcells eSurf (T.set k (a', (T.getD k dT).2.1, (T.getD k dT).2.2)) ++ r from by rw [k11]; exact tcells_set2 (r := r) (show k < T.length from by omega) ho ho2 (by rw [hat.fst]; exact he)); have hs5 := fun (d' : Value) (Hc : SPiece) => (show (tcells eSurf T ++ r).take (0 + ((k : Int)).toNat * 11 + 8) ++ [.int .i64 e.buf.W, .int .i64 e.buf.H, d'] ++ (tcells eSurf T ++ r).drop (0 + ((k : Int)).toNat * 11 + 8 + 3) = tcells eSurf (T.set k ({ s.ss.getD k default with buf := e.buf }, d', Hc)) ++ r from by rw [k11]; exact tcells_buf (r := r) (i := e.buf) (d' := d') (Hc := Hc) (show k < T.length from by omega) hat.fst); refine cc_perm (L := [?pa, ?pb, [(b0, srow (tcells eSurf T ++ r) 62)] ++ (tpiece T ++ G), ?pc, ?pd, ?pe]) (L' := [?pa, ?pb, [(b0, srow (tcells eSurf T ++ r) 62)], tpiece T ++ G, [], ?pc, ?pd, ?pe]) (by simp) ?_; refine c_loopV (ι := Nat × Value × SPiece) (fun j => j.1 ≤ T.length ∧ OVec eSurf.k 62 j.2.1 (eraseTo T k j.1).length (tcells eSurf (eraseTo T k j.1)) j.2.2) (fun j => [(9, .int .i64 (j.1 : Int))]) (fun j => [[(_, srow [.int .i64 0, .int .i64 0, .int .i64 0, j.2.1] 26)], _, _, _, j.2.2, _, _, _]) (fun j => T.length - j.1) (0, .slice none 0 0, []) ⟨by dsimp only; omega, by dsimp only; rw [eraseTo_zero, tnil]; exact OVec.nil⟩ rfl (fun _ => rfl) ⟨rfl, trivial⟩ (fun w hw => hw) (fun j hj => ?_); obtain ⟨hj1, hj2⟩ := hj) | refine c_seq ?_ | refine c_regionN rfl ?_ | refine c_ret ?_ | (refine kCond ?_; (first | refine c_cond_t rfl ?_ | refine c_cond_f rfl ?_ | ((first | refine c_cond_d rfl (fun h => ?_) (fun h => ?_) | refine c_cond_n rfl (fun h => ?_) (fun h => ?_)) <;> (try (first | contradiction | (exfalso; omega) | (exfalso; exact absurd hok (by assumption)) | (exfalso; omega)))) | refine c_cond_nb rfl (fun h => ?_) (fun h => ?_) | refine c_cond rfl (fun h => ?_) (fun h => ?_))) | refine c_block ?_ | refine c_skip ?_ | refine c_exit ?_ | refine c_regionQN rfl rfl (by decide +kernel) ?_)) | apply s_stepQ | (refine kQG ?_; (first | refine s_gyesQ rfl rfl rfl ?_ | refine s_gnoQ rfl rfl rfl rfl rfl ?_ | ((first | refine s_splitQ_d rfl rfl (fun h => ?_) (fun h => ?_) | refine s_splitQ_n rfl rfl (fun h => ?_) (fun h => ?_)) <;> (try (first | contradiction | (exfalso; omega) | (exfalso; exact absurd hok (by assumption)) | (exfalso; omega)))) | refine s_splitQ_nb rfl rfl (fun h => ?_) (fun h => ?_) | refine s_splitQ rfl rfl (fun h => ?_) (fun h => ?_))) | refine lQ_then ?_ | refine lQ_ends ?_ | (refine kE ?_; (first | refine e_then_r ?_ | refine e_block_r ?_ | refine e_then_n ?_ | refine e_then_x ?_ | refine e_block_n ?_ | refine e_block_x ?_ | refine e_block_y rfl ?_)) | refine l_ends ?_)
  · exact e_round (j.1 + 1, _, H') ⟨by dsimp only; omega, by dsimp only; rw [eraseTo_succ dT (by omega), if_neg (by omega)]; exact hv'⟩ ⟨rfl, (by repeat' first | exact trivial | refine ⟨rfl, ?_⟩)⟩ (fun w hw => hw.picks (by (repeat' first | exact Picks.nil | exact gp_hd | apply gp_tl | apply Picks.cons); done) (by rfl)) (by dsimp only; omega)
  · exact e_round (j.1 + 1, j.2.1, j.2.2) ⟨by dsimp only; omega, by dsimp only; rw [eraseTo_succ dT (by omega), if_pos (by omega), List.append_nil]; exact hj2⟩ ⟨rfl, (by repeat' first | exact trivial | refine ⟨rfl, ?_⟩)⟩ (fun w hw => hw.picks (by (repeat' first | exact Picks.nil | exact gp_hd | apply gp_tl | apply Picks.cons); done) (by rfl)) (by dsimp only; omega)
  all_goals first
    | (have hno : ¬ doEditOk s e := fun hh => absurd hh.2.2 (by assumption)
       rw [doEdit_no hno, decide_eq_false hno]
       exact s_leaveN rfl rfl (SRes.cellG rfl rfl fwA (.tmp rfl .nil)) (fun w hw => ⟨_, _, rfl, ⟨_, rfl, hu⟩, hw.toFresh (H := H) gpA⟩) .ret (.inl rfl))
    | (have hyes : doEditOk s e := ⟨hok, hed, by assumption⟩
       rw [doEdit_yes hyes, decide_eq_true hyes]
       exact s_leaveN rfl rfl (SRes.cellG rfl rfl fwA (.tmp rfl .nil)) (fun w hw => ⟨_, _, rfl, ⟨_, rfl, hu9⟩, hw.toFresh (H := H9) gpA⟩) .ret (.inl rfl))
end Go.Proofs.Ytakijgpoaeggnaa
namespace Go.Proofs.Ytakijgpoaeggnaa
open Go Sx
attribute [local irreducible] Exit.then Exit.inBlock bodyPost tcells OInts OElems
set_option maxHeartbeats 4000000 in
theorem c_sdoEditMove (k : Nat) (s : DScene) (e : DEdit) (v d : Value) (W : World) (hv : RS eSurf W v s.ss) (hd : RInts W d e.buf.data) (hl : surfsLen s.ss ≤ 2000000) (hel : e.buf.data.length ≤ 1000000000) (hok : s.ok) (hk : e.Kind = 2) (hi : surfaceIndex s.ss e.Id = (k : Int)) : SYieldsF Try.prog 75 #[vScene s v, vEdit e d] (fun u H => OSceneB u (doEdit s e) (decide (doEditOk s e)) H) W := by
  have hvf := hv.form
  obtain ⟨va, vc, rfl⟩ := hvf
  have hdf := hd.form
  obtain ⟨da, dc, rfl⟩ := hdf
  have hil := index_lt s.ss e.Id
  have hlen := hok.2.2.2.1
  have hidx : ∀ w, RS eSurf w (.slice va s.ss.length vc) s.ss → SYields Try.prog 41 #[vScene s (.slice va s.ss.length vc), .int .i64 e.Id] (.int .i64 (k : Int)) w := fun w hh => by rw [← hi]; exact c_ssurfaceIndex s _ _ w hh
  have hed : editable s e := .inr (.inr ⟨by omega, by omega⟩)
  have hes : edited s e = { s with ss := s.ss.set k { s.ss.getD k default with X := e.A, Y := e.B } } := (by rw [edited_turn (by omega) hi]; unfold touched; rw [if_pos (by omega)])
  have hsc : ∀ w v', RS eSurf w v' (s.ss.set k { s.ss.getD k default with X := e.A, Y := e.B }) → SYields Try.prog 84 #[.agg #[.int .i64 s.W, .int .i64 s.H, .int .i64 s.Back, v']] (.bool (decide (edited s e).ok)) w := fun w v' hh => by rw [hes]; exact c_ssceneOk { s with ss := s.ss.set k { s.ss.getD k default with X := e.A, Y := e.B } } v' w hh
  have hcp : ∀ w v', (edited s e).ok → RS eSurf w v' (s.ss.set k { s.ss.getD k default with X := e.A, Y := e.B }) → SYieldsF Try.prog 74 #[.agg #[.int .i64 s.W, .int .i64 s.H, .int .i64 s.Back, v']] (fun u H => OScene u (edited s e) H) w := fun w v' hh hh2 => by rw [hes] at hh ⊢; exact c_l10Copy { s with ss := s.ss.set k { s.ss.getD k default with X := e.A, Y := e.B } } v' w hh2 (scene_len hh)
  (first | apply SYields.mk | apply SYieldsF.mk | skip); refine s_enter Try.func75 rfl Try.ntmps75 rfl ?_
  repeat' (first | exact rfl | (apply kO; (first | exact ov_pure rfl | (apply kOBin; (first | exact aBin)) | (apply kOCall; (first | (apply kCallF; (first | exact (ov_call rfl (fun w hw => hsc w _ (rd_turn hat { s.ss.getD k default with X := e.A, Y := e.B } rfl (hs2 1 2 _ _ _ (by omega) (by omega) rfl) (hfA hw) (hfA hw)))) | exact (ov_call rfl (fun w hw => c_ssceneOk s _ w (hv.keep (hw.cells rfl)))) | exact (ov_call rfl (fun w hw => hidx w (hv.keep (hw.cells rfl)))) | exact (ov_call rfl (fun w hw => c_l01In _ _ _ w)))) | (apply kCallB; (first | exact aBlt | exact aLenR)))) | (apply kOLoad; (first | exact (ov_ldRZ (fun w hw => trow h1 (hfA hw)) rfl rfl (by omega) rfl) | exact aLdF | exact aLdR)) | exact ov_fieldAddr rfl | (apply kOIdx; (first | exact (ov_indexAddr rfl rfl (by omega)) | exact (ov_idxR (fun w hw => trow h1 (hfA hw)) rfl rfl (by omega)) | exact aIdx)) | exact aRest | exact aNew | exact (ov_field1 (ft := 37) rfl rfl rfl rfl))) | (refine kN ?_; (first | (refine kCall ?_; (first | (refine kWFn 74 ?_; (refine s_callF (fun u H => OScene u (edited s e) H) rfl (fun w hw => hcp w _ (by assumption) (rd_turn hat { s.ss.getD k default with X := e.A, Y := e.B } rfl (hs2 1 2 _ _ _ (by omega) (by omega) rfl) (hfA hw) (hfA hw))) rfl (fun u H9 hu9 => ?_); obtain ⟨v9, rfl, hu9⟩ := hu9; have f1 := hu9.form; obtain ⟨_, _, rfl⟩ := f1)) | (refine kWFn 74 ?_; (refine s_callF (fun u H => OScene u s H) rfl (fun w hw => c_l10Copy s _ w (hv.keep (hw.cells rfl)) hl) rfl (fun u H hu => ?_); obtain ⟨v6, rfl, hu⟩ := hu)) | (refine kWApp ?_; (refine s_appendT _ _ (T.getD j.1 dT) rfl rfl hj2 gpA gpA (eSurf_ones (OInts.one (show OInts _ _ _ _ from h2 _ (getT_mem (by omega))))) (by rw [scells_eq]; rfl) (by have := hel2 j.1; omega) (by decide) rfl (fun v' H' hv' => ?_); have f1 := OVec.form hv'; obtain ⟨ua, uc, rfl⟩ := f1)) | apply s_step)) | (refine kStore ?_; (first | (refine s_storeS _ rfl rfl gpA rfl (ones_cons rfl (ones_cons rfl (ones_cons rfl (ones_cons (OElems.one (by assumption)) rfl)))) (by rfl) ?_) | (refine s_setR _ rfl rfl gpA rfl (by (try simp only [List.length_set]); rw [hln]; omega) ?_) | refine s_store1 _ rfl rfl gpA rfl (by rfl) ?_ | refine s_storeS _ rfl rfl gpA rfl rfl (by rfl) ?_ | refine s_storeS _ rfl rfl gpA rfl (ones_img oiA) (by rfl) ?_)) | refine s_boxS rfl rfl (fun b hb => ?_) | refine s_allocS rfl (fun b hb => ?_) | refine s_box1 rfl rfl rfl (fun b hb => ?_) | refine s_alloc1 rfl rfl (fun b hb => ?_) | refine s_buildSlice0 rfl (fun b hb => ?_) | refine s_buildSlice rfl rfl rfl rfl rfl (fun b hb => ?_) | apply s_step)) | (refine kG ?_; (first | refine s_gyes rfl rfl rfl ?_ | refine s_gno rfl rfl rfl rfl rfl ?_ | ((first | refine s_split_d rfl rfl (fun h => ?_) (fun h => ?_) | refine s_split_n rfl rfl (fun h => ?_) (fun h => ?_)) <;> (try (first | contradiction | (exfalso; omega) | (exfalso; exact absurd hok (by assumption)) | (exfalso; omega)))) | refine s_split_nb rfl rfl (fun h => ?_) (fun h => ?_) | refine s_split rfl rfl (fun h => ?_) (fun h => ?_))) | (refine kS ?_; (first | refine h_exec rfl ?_ | refine h_take_nil rfl rfl rfl ?_ | refine h_take_pick rfl rfl rfl ?_ | refine h_nil ?_ | refine h_alt ?_ ?_ | apply h_take)) | (refine kBack ?_; (first | refine h_back_last rfl ?_ | refine h_backN rfl subA ?_)) | refine l_then ?_ | (refine kC ?_; (first | (refine kReg 10 ?_; refine c_regionSubN (SPlan.take 0 (SPlan.take 1 (SPlan.take 2 (SPlan.take 3 (SPlan.take 4 (SPlan.take 5 (SPlan.take 6 (SPlan.run 7 (SPlan.run 8 (SPlan.take 9 (SPlan.run 10 SPlan.done))))))))))) (some 10) [true, true, true, true, false, true, true, true] rfl rfl rfl (by decide +kernel) ?_) | (refine kLoop 7 ?_; obtain ⟨T, H0, G, hT, h1, h2, rfl⟩ := OElems.tri hu; have hTl : T.length = s.ss.length := (by rw [← hT, List.length_map]); obtain ⟨b0, cap, r, rfl, rfl, h4, h5, h6, h7⟩ := (ovec_split h1).resolve_left (fun hh => (by have := hh.2.1; omega)); have hat : EdAt s k T b0 cap r := ⟨hT, by omega, h2, h5, h6, h7⟩; have hln := hat.len; have hel2 := fun i => eraseTo_length T k i; have hs1 := fun (o : Nat) (u : Value) (a' : DSurf) (ho : o < 11) (he : (eSurf.cells (s.ss.getD k default) (T.getD k dT).2.1).set o u = eSurf.cells a' (T.getD k dT).2.1) => (show (tcells eSurf T ++ r).set (0 + ((k : Int)).toNat * 11 + o) u = tcells eSurf (T.set k (a', (T.getD k dT).2.1, (T.getD k dT).2.2)) ++ r from by rw [k11]; exact tcells_set (r := r) (show k < T.length from by omega) ho (by rw [hat.fst]; exact he)); have hs2 := fun (o o2 : Nat) (u u2 : Value) (a' : DSurf) (ho : o < 11) (ho2 : o2 < 11) (he : ((eSurf.cells (s.ss.getD k default) (T.getD k dT).2.1).set o u).set o2 u2 = eSurf.cells a' (T.getD k dT).2.1) => (show ((tcells eSurf T ++ r).set (0 + ((k : Int)).toNat * 11 + o) u).set (0 + ((k : Int)).toNat * 11 + o2) u2 = tcells eSurf (T.set k (a', (T.getD k dT).2.1, (T.getD k dT).2.2)) ++ r from by rw [k11]; exact tcells_set2 (r := r) (show k < T.length from by omega) ho ho2 (by rw [hat.fst]; exact he)); have hs5 := fun (d' : Value) (Hc : SPiece) => (show (tcells eSurf T ++ r).take (0 + ((k : Int)).toNat * 11 + 8) ++ [.int .i64 e.buf.W, .int .i64 e.buf.H, d'] ++ (tcells eSurf T ++ r).drop (0 + ((k : Int)).toNat * 11 + 8 + 3) = tcells eSurf (T.set k ({ s.ss.getD k default with buf := e.buf }, d', Hc)) ++ r from by rw [k11]; exact tcells_buf (r := r) (i := e.buf) (d' := d') (Hc := Hc) (show k < T.length from by omega) hat.fst); refine cc_perm (L := [?pa, ?pb, [(b0, srow (tcells eSurf T ++ r) 62)] ++ (tpiece T ++ G), ?pc, ?pd, ?pe]) (L' := [?pa, ?pb, [(b0, srow (tcells eSurf T ++ r) 62)], tpiece T ++ G, [], ?pc, ?pd, ?pe]) (by simp) ?_; refine c_loopV (ι := Nat × Value × SPiece) (fun j => j.1 ≤ T.length ∧ OVec eSurf.k 62 j.2.1 (eraseTo T k j.1).length (tcells eSurf (eraseTo T k j.1)) j.2.2) (fun j => [(9, .int .i64 (j.1 : Int))]) (fun j => [[(_, srow [.int .i64 0, .int .i64 0, .int .i64 0, j.2.1] 26)], _, _, _, j.2.2, _, _, _]) (fun j => T.length - j.1) (0, .slice none 0 0, []) ⟨by dsimp only; omega, by dsimp only; rw [eraseTo_zero, tnil]; exact OVec.nil⟩ rfl (fun _ => rfl) ⟨rfl, trivial⟩ (fun w hw => hw) (fun j hj => ?_); obtain ⟨hj1, hj2⟩ := hj) | refine c_seq ?_ | refine c_regionN rfl ?_ | refine c_ret ?_ | (refine kCond ?_; (first | refine c_cond_t rfl ?_ | refine c_cond_f rfl ?_ | ((first | refine c_cond_d rfl (fun h => ?_) (fun h => ?_) | refine c_cond_n rfl (fun h => ?_) (fun h => ?_)) <;> (try (first | contradiction | (exfalso; omega) | (exfalso; exact absurd hok (by assumption)) | (exfalso; omega)))) | refine c_cond_nb rfl (fun h => ?_) (fun h => ?_) | refine c_cond rfl (fun h => ?_) (fun h => ?_))) | refine c_block ?_ | refine c_skip ?_ | refine c_exit ?_ | refine c_regionQN rfl rfl (by decide +kernel) ?_)) | apply s_stepQ | (refine kQG ?_; (first | refine s_gyesQ rfl rfl rfl ?_ | refine s_gnoQ rfl rfl rfl rfl rfl ?_ | ((first | refine s_splitQ_d rfl rfl (fun h => ?_) (fun h => ?_) | refine s_splitQ_n rfl rfl (fun h => ?_) (fun h => ?_)) <;> (try (first | contradiction | (exfalso; omega) | (exfalso; exact absurd hok (by assumption)) | (exfalso; omega)))) | refine s_splitQ_nb rfl rfl (fun h => ?_) (fun h => ?_) | refine s_splitQ rfl rfl (fun h => ?_) (fun h => ?_))) | refine lQ_then ?_ | refine lQ_ends ?_ | (refine kE ?_; (first | refine e_then_r ?_ | refine e_block_r ?_ | refine e_then_n ?_ | refine e_then_x ?_ | refine e_block_n ?_ | refine e_block_x ?_ | refine e_block_y rfl ?_)) | refine l_ends ?_)
  · exact e_round (j.1 + 1, _, H') ⟨by dsimp only; omega, by dsimp only; rw [eraseTo_succ dT (by omega), if_neg (by omega)]; exact hv'⟩ ⟨rfl, (by repeat' first | exact trivial | refine ⟨rfl, ?_⟩)⟩ (fun w hw => hw.picks (by (repeat' first | exact Picks.nil | exact gp_hd | apply gp_tl | apply Picks.cons); done) (by rfl)) (by dsimp only; omega)
  · exact e_round (j.1 + 1, j.2.1, j.2.2) ⟨by dsimp only; omega, by dsimp only; rw [eraseTo_succ dT (by omega), if_pos (by omega), List.append_nil]; exact hj2⟩ ⟨rfl, (by repeat' first | exact trivial | refine ⟨rfl, ?_⟩)⟩ (fun w hw => hw.picks (by (repeat' first | exact Picks.nil | exact gp_hd | apply gp_tl | apply Picks.cons); done) (by rfl)) (by dsimp only; omega)
  all_goals first
    | (have hno : ¬ doEditOk s e := fun hh => absurd hh.2.2 (by assumption)
       rw [doEdit_no hno, decide_eq_false hno]
       exact s_leaveN rfl rfl (SRes.cellG rfl rfl fwA (.tmp rfl .nil)) (fun w hw => ⟨_, _, rfl, ⟨_, rfl, hu⟩, hw.toFresh (H := H) gpA⟩) .ret (.inl rfl))
    | (have hyes : doEditOk s e := ⟨hok, hed, by assumption⟩
       rw [doEdit_yes hyes, decide_eq_true hyes]
       exact s_leaveN rfl rfl (SRes.cellG rfl rfl fwA (.tmp rfl .nil)) (fun w hw => ⟨_, _, rfl, ⟨_, rfl, hu9⟩, hw.toFresh (H := H9) gpA⟩) .ret (.inl rfl))
set_option maxHeartbeats 4000000 in
theorem c_sdoEditAlpha (k : Nat) (s : DScene) (e : DEdit) (v d : Value) (W : World) (hv : RS eSurf W v s.ss) (hd : RInts W d e.buf.data) (hl : surfsLen s.ss ≤ 2000000) (hel : e.buf.data.length ≤ 1000000000) (hok : s.ok) (hk : e.Kind = 6) (hi : surfaceIndex s.ss e.Id = (k : Int)) : SYieldsF Try.prog 75 #[vScene s v, vEdit e d] (fun u H => OSceneB u (doEdit s e) (decide (doEditOk s e)) H) W := by
  have hvf := hv.form
  obtain ⟨va, vc, rfl⟩ := hvf
  have hdf := hd.form
  obtain ⟨da, dc, rfl⟩ := hdf
  have hil := index_lt s.ss e.Id
  have hlen := hok.2.2.2.1
  have hidx : ∀ w, RS eSurf w (.slice va s.ss.length vc) s.ss → SYields Try.prog 41 #[vScene s (.slice va s.ss.length vc), .int .i64 e.Id] (.int .i64 (k : Int)) w := fun w hh => by rw [← hi]; exact c_ssurfaceIndex s _ _ w hh
  have hed : editable s e := .inr (.inr ⟨by omega, by omega⟩)
  have hes : edited s e = { s with ss := s.ss.set k { s.ss.getD k default with Alpha := e.A } } := (by rw [edited_turn (by omega) hi]; unfold touched; rw [if_neg (by omega), if_neg (by omega), if_pos (by omega)])
  have hsc : ∀ w v', RS eSurf w v' (s.ss.set k { s.ss.getD k default with Alpha := e.A }) → SYields Try.prog 84 #[.agg #[.int .i64 s.W, .int .i64 s.H, .int .i64 s.Back, v']] (.bool (decide (edited s e).ok)) w := fun w v' hh => by rw [hes]; exact c_ssceneOk { s with ss := s.ss.set k { s.ss.getD k default with Alpha := e.A } } v' w hh
  have hcp : ∀ w v', (edited s e).ok → RS eSurf w v' (s.ss.set k { s.ss.getD k default with Alpha := e.A }) → SYieldsF Try.prog 74 #[.agg #[.int .i64 s.W, .int .i64 s.H, .int .i64 s.Back, v']] (fun u H => OScene u (edited s e) H) w := fun w v' hh hh2 => by rw [hes] at hh ⊢; exact c_l10Copy { s with ss := s.ss.set k { s.ss.getD k default with Alpha := e.A } } v' w hh2 (scene_len hh)
  (first | apply SYields.mk | apply SYieldsF.mk | skip); refine s_enter Try.func75 rfl Try.ntmps75 rfl ?_
  repeat' (first | exact rfl | (apply kO; (first | exact ov_pure rfl | (apply kOBin; (first | exact aBin)) | (apply kOCall; (first | (apply kCallF; (first | exact (ov_call rfl (fun w hw => hsc w _ (rd_turn hat { s.ss.getD k default with Alpha := e.A } rfl (hs1 5 _ _ (by omega) rfl) (hfA hw) (hfA hw)))) | exact (ov_call rfl (fun w hw => c_ssceneOk s _ w (hv.keep (hw.cells rfl)))) | exact (ov_call rfl (fun w hw => hidx w (hv.keep (hw.cells rfl)))) | exact (ov_call rfl (fun w hw => c_l01In _ _ _ w)))) | (apply kCallB; (first | exact aBlt | exact aLenR)))) | (apply kOLoad; (first | exact (ov_ldRZ (fun w hw => trow h1 (hfA hw)) rfl rfl (by omega) rfl) | exact aLdF | exact aLdR)) | exact ov_fieldAddr rfl | (apply kOIdx; (first | exact (ov_indexAddr rfl rfl (by omega)) | exact (ov_idxR (fun w hw => trow h1 (hfA hw)) rfl rfl (by omega)) | exact aIdx)) | exact aRest | exact aNew | exact (ov_field1 (ft := 37) rfl rfl rfl rfl))) | (refine kN ?_; (first | (refine kCall ?_; (first | (refine kWFn 74 ?_; (refine s_callF (fun u H => OScene u (edited s e) H) rfl (fun w hw => hcp w _ (by assumption) (rd_turn hat { s.ss.getD k default with Alpha := e.A } rfl (hs1 5 _ _ (by omega) rfl) (hfA hw) (hfA hw))) rfl (fun u H9 hu9 => ?_); obtain ⟨v9, rfl, hu9⟩ := hu9; have f1 := hu9.form; obtain ⟨_, _, rfl⟩ := f1)) | (refine kWFn 74 ?_; (refine s_callF (fun u H => OScene u s H) rfl (fun w hw => c_l10Copy s _ w (hv.keep (hw.cells rfl)) hl) rfl (fun u H hu => ?_); obtain ⟨v6, rfl, hu⟩ := hu)) | (refine kWApp ?_; (refine s_appendT _ _ (T.getD j.1 dT) rfl rfl hj2 gpA gpA (eSurf_ones (OInts.one (show OInts _ _ _ _ from h2 _ (getT_mem (by omega))))) (by rw [scells_eq]; rfl) (by have := hel2 j.1; omega) (by decide) rfl (fun v' H' hv' => ?_); have f1 := OVec.form hv'; obtain ⟨ua, uc, rfl⟩ := f1)) | apply s_step)) | (refine kStore ?_; (first | (refine s_storeS _ rfl rfl gpA rfl (ones_cons rfl (ones_cons rfl (ones_cons rfl (ones_cons (OElems.one (by assumption)) rfl)))) (by rfl) ?_) | (refine s_setR _ rfl rfl gpA rfl (by (try simp only [List.length_set]); rw [hln]; omega) ?_) | refine s_store1 _ rfl rfl gpA rfl (by rfl) ?_ | refine s_storeS _ rfl rfl gpA rfl rfl (by rfl) ?_ | refine s_storeS _ rfl rfl gpA rfl (ones_img oiA) (by rfl) ?_)) | refine s_boxS rfl rfl (fun b hb => ?_) | refine s_allocS rfl (fun b hb => ?_) | refine s_box1 rfl rfl rfl (fun b hb => ?_) | refine s_alloc1 rfl rfl (fun b hb => ?_) | refine s_buildSlice0 rfl (fun b hb => ?_) | refine s_buildSlice rfl rfl rfl rfl rfl (fun b hb => ?_) | apply s_step)) | (refine kG ?_; (first | refine s_gyes rfl rfl rfl ?_ | refine s_gno rfl rfl rfl rfl rfl ?_ | ((first | refine s_split_d rfl rfl (fun h => ?_) (fun h => ?_) | refine s_split_n rfl rfl (fun h => ?_) (fun h => ?_)) <;> (try (first | contradiction | (exfalso; omega) | (exfalso; exact absurd hok (by assumption)) | (exfalso; omega)))) | refine s_split_nb rfl rfl (fun h => ?_) (fun h => ?_) | refine s_split rfl rfl (fun h => ?_) (fun h => ?_))) | (refine kS ?_; (first | refine h_exec rfl ?_ | refine h_take_nil rfl rfl rfl ?_ | refine h_take_pick rfl rfl rfl ?_ | refine h_nil ?_ | refine h_alt ?_ ?_ | apply h_take)) | (refine kBack ?_; (first | refine h_back_last rfl ?_ | refine h_backN rfl subA ?_)) | refine l_then ?_ | (refine kC ?_; (first | (refine kReg 10 ?_; refine c_regionSubN (SPlan.take 0 (SPlan.take 1 (SPlan.take 2 (SPlan.take 3 (SPlan.take 4 (SPlan.take 5 (SPlan.take 6 (SPlan.run 7 (SPlan.run 8 (SPlan.take 9 (SPlan.run 10 SPlan.done))))))))))) (some 10) [true, true, true, true, false, true, true, true] rfl rfl rfl (by decide +kernel) ?_) | (refine kLoop 7 ?_; obtain ⟨T, H0, G, hT, h1, h2, rfl⟩ := OElems.tri hu; have hTl : T.length = s.ss.length := (by rw [← hT, List.length_map]); obtain ⟨b0, cap, r, rfl, rfl, h4, h5, h6, h7⟩ := (ovec_split h1).resolve_left (fun hh => (by have := hh.2.1; omega)); have hat : EdAt s k T b0 cap r := ⟨hT, by omega, h2, h5, h6, h7⟩; have hln := hat.len; have hel2 := fun i => eraseTo_length T k i; have hs1 := fun (o : Nat) (u : Value) (a' : DSurf) (ho : o < 11) (he : (eSurf.cells (s.ss.getD k default) (T.getD k dT).2.1).set o u = eSurf.cells a' (T.getD k dT).2.1) => (show (tcells eSurf T ++ r).set (0 + ((k : Int)).toNat * 11 + o) u = tcells eSurf (T.set k (a', (T.getD k dT).2.1, (T.getD k dT).2.2)) ++ r from by rw [k11]; exact tcells_set (r := r) (show k < T.length from by omega) ho (by rw [hat.fst]; exact he)); have hs2 := fun (o o2 : Nat) (u u2 : Value) (a' : DSurf) (ho : o < 11) (ho2 : o2 < 11) (he : ((eSurf.cells (s.ss.getD k default) (T.getD k dT).2.1).set o u).set o2 u2 = eSurf.cells a' (T.getD k dT).2.1) => (show ((tcells eSurf T ++ r).set (0 + ((k : Int)).toNat * 11 + o) u).set (0 + ((k : Int)).toNat * 11 + o2) u2 = tcells eSurf (T.set k (a', (T.getD k dT).2.1, (T.getD k dT).2.2)) ++ r from by rw [k11]; exact tcells_set2 (r := r) (show k < T.length from by omega) ho ho2 (by rw [hat.fst]; exact he)); have hs5 := fun (d' : Value) (Hc : SPiece) => (show (tcells eSurf T ++ r).take (0 + ((k : Int)).toNat * 11 + 8) ++ [.int .i64 e.buf.W, .int .i64 e.buf.H, d'] ++ (tcells eSurf T ++ r).drop (0 + ((k : Int)).toNat * 11 + 8 + 3) = tcells eSurf (T.set k ({ s.ss.getD k default with buf := e.buf }, d', Hc)) ++ r from by rw [k11]; exact tcells_buf (r := r) (i := e.buf) (d' := d') (Hc := Hc) (show k < T.length from by omega) hat.fst); refine cc_perm (L := [?pa, ?pb, [(b0, srow (tcells eSurf T ++ r) 62)] ++ (tpiece T ++ G), ?pc, ?pd, ?pe]) (L' := [?pa, ?pb, [(b0, srow (tcells eSurf T ++ r) 62)], tpiece T ++ G, [], ?pc, ?pd, ?pe]) (by simp) ?_; refine c_loopV (ι := Nat × Value × SPiece) (fun j => j.1 ≤ T.length ∧ OVec eSurf.k 62 j.2.1 (eraseTo T k j.1).length (tcells eSurf (eraseTo T k j.1)) j.2.2) (fun j => [(9, .int .i64 (j.1 : Int))]) (fun j => [[(_, srow [.int .i64 0, .int .i64 0, .int .i64 0, j.2.1] 26)], _, _, _, j.2.2, _, _, _]) (fun j => T.length - j.1) (0, .slice none 0 0, []) ⟨by dsimp only; omega, by dsimp only; rw [eraseTo_zero, tnil]; exact OVec.nil⟩ rfl (fun _ => rfl) ⟨rfl, trivial⟩ (fun w hw => hw) (fun j hj => ?_); obtain ⟨hj1, hj2⟩ := hj) | refine c_seq ?_ | refine c_regionN rfl ?_ | refine c_ret ?_ | (refine kCond ?_; (first | refine c_cond_t rfl ?_ | refine c_cond_f rfl ?_ | ((first | refine c_cond_d rfl (fun h => ?_) (fun h => ?_) | refine c_cond_n rfl (fun h => ?_) (fun h => ?_)) <;> (try (first | contradiction | (exfalso; omega) | (exfalso; exact absurd hok (by assumption)) | (exfalso; omega)))) | refine c_cond_nb rfl (fun h => ?_) (fun h => ?_) | refine c_cond rfl (fun h => ?_) (fun h => ?_))) | refine c_block ?_ | refine c_skip ?_ | refine c_exit ?_ | refine c_regionQN rfl rfl (by decide +kernel) ?_)) | apply s_stepQ | (refine kQG ?_; (first | refine s_gyesQ rfl rfl rfl ?_ | refine s_gnoQ rfl rfl rfl rfl rfl ?_ | ((first | refine s_splitQ_d rfl rfl (fun h => ?_) (fun h => ?_) | refine s_splitQ_n rfl rfl (fun h => ?_) (fun h => ?_)) <;> (try (first | contradiction | (exfalso; omega) | (exfalso; exact absurd hok (by assumption)) | (exfalso; omega)))) | refine s_splitQ_nb rfl rfl (fun h => ?_) (fun h => ?_) | refine s_splitQ rfl rfl (fun h => ?_) (fun h => ?_))) | refine lQ_then ?_ | refine lQ_ends ?_ | (refine kE ?_; (first | refine e_then_r ?_ | refine e_block_r ?_ | refine e_then_n ?_ | refine e_then_x ?_ | refine e_block_n ?_ | refine e_block_x ?_ | refine e_block_y rfl ?_)) | refine l_ends ?_)
  · exact e_round (j.1 + 1, _, H') ⟨by dsimp only; omega, by dsimp only; rw [eraseTo_succ dT (by omega), if_neg (by omega)]; exact hv'⟩ ⟨rfl, (by repeat' first | exact trivial | refine ⟨rfl, ?_⟩)⟩ (fun w hw => hw.picks (by (repeat' first | exact Picks.nil | exact gp_hd | apply gp_tl | apply Picks.cons); done) (by rfl)) (by dsimp only; omega)
  · exact e_round (j.1 + 1, j.2.1, j.2.2) ⟨by dsimp only; omega, by dsimp only; rw [eraseTo_succ dT (by omega), if_pos (by omega), List.append_nil]; exact hj2⟩ ⟨rfl, (by repeat' first | exact trivial | refine ⟨rfl, ?_⟩)⟩ (fun w hw => hw.picks (by (repeat' first | exact Picks.nil | exact gp_hd | apply gp_tl | apply Picks.cons); done) (by rfl)) (by dsimp only; omega)
  all_goals first
    | (have hno : ¬ doEditOk s e := fun hh => absurd hh.2.2 (by assumption)
       rw [doEdit_no hno, decide_eq_false hno]
       exact s_leaveN rfl rfl (SRes.cellG rfl rfl fwA (.tmp rfl .nil)) (fun w hw => ⟨_, _, rfl, ⟨_, rfl, hu⟩, hw.toFresh (H := H) gpA⟩) .ret (.inl rfl))
    | (have hyes : doEditOk s e := ⟨hok, hed, by assumption⟩
       rw [doEdit_yes hyes, decide_eq_true hyes]
       exact s_leaveN rfl rfl (SRes.cellG rfl rfl fwA (.tmp rfl .nil)) (fun w hw => ⟨_, _, rfl, ⟨_, rfl, hu9⟩, hw.toFresh (H := H9) gpA⟩) .ret (.inl rfl))
set_option maxHeartbeats 4000000 in
theorem c_sdoEditOrient (k : Nat) (s : DScene) (e : DEdit) (v d : Value) (W : World) (hv : RS eSurf W v s.ss) (hd : RInts W d e.buf.data) (hl : surfsLen s.ss ≤ 2000000) (hel : e.buf.data.length ≤ 1000000000) (hok : s.ok) (hk : e.Kind = 7) (hi : surfaceIndex s.ss e.Id = (k : Int)) : SYieldsF Try.prog 75 #[vScene s v, vEdit e d] (fun u H => OSceneB u (doEdit s e) (decide (doEditOk s e)) H) W := by
  have hvf := hv.form
  obtain ⟨va, vc, rfl⟩ := hvf
  have hdf := hd.form
  obtain ⟨da, dc, rfl⟩ := hdf
  have hil := index_lt s.ss e.Id
  have hlen := hok.2.2.2.1
  have hidx : ∀ w, RS eSurf w (.slice va s.ss.length vc) s.ss → SYields Try.prog 41 #[vScene s (.slice va s.ss.length vc), .int .i64 e.Id] (.int .i64 (k : Int)) w := fun w hh => by rw [← hi]; exact c_ssurfaceIndex s _ _ w hh
  have hed : editable s e := .inr (.inr ⟨by omega, by omega⟩)
  have hes : edited s e = { s with ss := s.ss.set k { s.ss.getD k default with Orient := e.A } } := (by rw [edited_turn (by omega) hi]; unfold touched; rw [if_neg (by omega), if_neg (by omega), if_neg (by omega), if_pos (by omega)])
  have hsc : ∀ w v', RS eSurf w v' (s.ss.set k { s.ss.getD k default with Orient := e.A }) → SYields Try.prog 84 #[.agg #[.int .i64 s.W, .int .i64 s.H, .int .i64 s.Back, v']] (.bool (decide (edited s e).ok)) w := fun w v' hh => by rw [hes]; exact c_ssceneOk { s with ss := s.ss.set k { s.ss.getD k default with Orient := e.A } } v' w hh
  have hcp : ∀ w v', (edited s e).ok → RS eSurf w v' (s.ss.set k { s.ss.getD k default with Orient := e.A }) → SYieldsF Try.prog 74 #[.agg #[.int .i64 s.W, .int .i64 s.H, .int .i64 s.Back, v']] (fun u H => OScene u (edited s e) H) w := fun w v' hh hh2 => by rw [hes] at hh ⊢; exact c_l10Copy { s with ss := s.ss.set k { s.ss.getD k default with Orient := e.A } } v' w hh2 (scene_len hh)
  (first | apply SYields.mk | apply SYieldsF.mk | skip); refine s_enter Try.func75 rfl Try.ntmps75 rfl ?_
  repeat' (first | exact rfl | (apply kO; (first | exact ov_pure rfl | (apply kOBin; (first | exact aBin)) | (apply kOCall; (first | (apply kCallF; (first | exact (ov_call rfl (fun w hw => hsc w _ (rd_turn hat { s.ss.getD k default with Orient := e.A } rfl (hs1 6 _ _ (by omega) rfl) (hfA hw) (hfA hw)))) | exact (ov_call rfl (fun w hw => c_ssceneOk s _ w (hv.keep (hw.cells rfl)))) | exact (ov_call rfl (fun w hw => hidx w (hv.keep (hw.cells rfl)))) | exact (ov_call rfl (fun w hw => c_l01In _ _ _ w)))) | (apply kCallB; (first | exact aBlt | exact aLenR)))) | (apply kOLoad; (first | exact (ov_ldRZ (fun w hw => trow h1 (hfA hw)) rfl rfl (by omega) rfl) | exact aLdF | exact aLdR)) | exact ov_fieldAddr rfl | (apply kOIdx; (first | exact (ov_indexAddr rfl rfl (by omega)) | exact (ov_idxR (fun w hw => trow h1 (hfA hw)) rfl rfl (by omega)) | exact aIdx)) | exact aRest | exact aNew | exact (ov_field1 (ft := 37) rfl rfl rfl rfl))) | (refine kN ?_; (first | (refine kCall ?_; (first | (refine kWFn 74 ?_; (refine s_callF (fun u H => OScene u (edited s e) H) rfl (fun w hw => hcp w _ (by assumption) (rd_turn hat { s.ss.getD k default with Orient := e.A } rfl (hs1 6 _ _ (by omega) rfl) (hfA hw) (hfA hw))) rfl (fun u H9 hu9 => ?_); obtain ⟨v9, rfl, hu9⟩ := hu9; have f1 := hu9.form; obtain ⟨_, _, rfl⟩ := f1)) | (refine kWFn 74 ?_; (refine s_callF (fun u H => OScene u s H) rfl (fun w hw => c_l10Copy s _ w (hv.keep (hw.cells rfl)) hl) rfl (fun u H hu => ?_); obtain ⟨v6, rfl, hu⟩ := hu)) | (refine kWApp ?_; (refine s_appendT _ _ (T.getD j.1 dT) rfl rfl hj2 gpA gpA (eSurf_ones (OInts.one (show OInts _ _ _ _ from h2 _ (getT_mem (by omega))))) (by rw [scells_eq]; rfl) (by have := hel2 j.1; omega) (by decide) rfl (fun v' H' hv' => ?_); have f1 := OVec.form hv'; obtain ⟨ua, uc, rfl⟩ := f1)) | apply s_step)) | (refine kStore ?_; (first | (refine s_storeS _ rfl rfl gpA rfl (ones_cons rfl (ones_cons rfl (ones_cons rfl (ones_cons (OElems.one (by assumption)) rfl)))) (by rfl) ?_) | (refine s_setR _ rfl rfl gpA rfl (by (try simp only [List.length_set]); rw [hln]; omega) ?_) | refine s_store1 _ rfl rfl gpA rfl (by rfl) ?_ | refine s_storeS _ rfl rfl gpA rfl rfl (by rfl) ?_ | refine s_storeS _ rfl rfl gpA rfl (ones_img oiA) (by rfl) ?_)) | refine s_boxS rfl rfl (fun b hb => ?_) | refine s_allocS rfl (fun b hb => ?_) | refine s_box1 rfl rfl rfl (fun b hb => ?_) | refine s_alloc1 rfl rfl (fun b hb => ?_) | refine s_buildSlice0 rfl (fun b hb => ?_) | refine s_buildSlice rfl rfl rfl rfl rfl (fun b hb => ?_) | apply s_step)) | (refine kG ?_; (first | refine s_gyes rfl rfl rfl ?_ | refine s_gno rfl rfl rfl rfl rfl ?_ | ((first | refine s_split_d rfl rfl (fun h => ?_) (fun h => ?_) | refine s_split_n rfl rfl (fun h => ?_) (fun h => ?_)) <;> (try (first | contradiction | (exfalso; omega) | (exfalso; exact absurd hok (by assumption)) | (exfalso; omega)))) | refine s_split_nb rfl rfl (fun h => ?_) (fun h => ?_) | refine s_split rfl rfl (fun h => ?_) (fun h => ?_))) | (refine kS ?_; (first | refine h_exec rfl ?_ | refine h_take_nil rfl rfl rfl ?_ | refine h_take_pick rfl rfl rfl ?_ | refine h_nil ?_ | refine h_alt ?_ ?_ | apply h_take)) | (refine kBack ?_; (first | refine h_back_last rfl ?_ | refine h_backN rfl subA ?_)) | refine l_then ?_ | (refine kC ?_; (first | (refine kReg 10 ?_; refine c_regionSubN (SPlan.take 0 (SPlan.take 1 (SPlan.take 2 (SPlan.take 3 (SPlan.take 4 (SPlan.take 5 (SPlan.take 6 (SPlan.run 7 (SPlan.run 8 (SPlan.take 9 (SPlan.run 10 SPlan.done))))))))))) (some 10) [true, true, true, true, false, true, true, true] rfl rfl rfl (by decide +kernel) ?_) | (refine kLoop 7 ?_; obtain ⟨T, H0, G, hT, h1, h2, rfl⟩ := OElems.tri hu; have hTl : T.length = s.ss.length := (by rw [← hT, List.length_map]); obtain ⟨b0, cap, r, rfl, rfl, h4, h5, h6, h7⟩ := (ovec_split h1).resolve_left (fun hh => (by have := hh.2.1; omega)); have hat : EdAt s k T b0 cap r := ⟨hT, by omega, h2, h5, h6, h7⟩; have hln := hat.len; have hel2 := fun i => eraseTo_length T k i; have hs1 := fun (o : Nat) (u : Value) (a' : DSurf) (ho : o < 11) (he : (eSurf.cells (s.ss.getD k default) (T.getD k dT).2.1).set o u = eSurf.cells a' (T.getD k dT).2.1) => (show (tcells eSurf T ++ r).set (0 + ((k : Int)).toNat * 11 + o) u = tcells eSurf (T.set k (a', (T.getD k dT).2.1, (T.getD k dT).2.2)) ++ r from by rw [k11]; exact tcells_set (r := r) (show k < T.length from by omega) ho (by rw [hat.fst]; exact he)); have hs2 := fun (o o2 : Nat) (u u2 : Value) (a' : DSurf) (ho : o < 11) (ho2 : o2 < 11) (he : ((eSurf.cells (s.ss.getD k default) (T.getD k dT).2.1).set o u).set o2 u2 = eSurf.cells a' (T.getD k dT).2.1) => (show ((tcells eSurf T ++ r).set (0 + ((k : Int)).toNat * 11 + o) u).set (0 + ((k : Int)).toNat * 11 + o2) u2 = tcells eSurf (T.set k (a', (T.getD k dT).2.1, (T.getD k dT).2.2)) ++ r from by rw [k11]; exact tcells_set2 (r := r) (show k < T.length from by omega) ho ho2 (by rw [hat.fst]; exact he)); have hs5 := fun (d' : Value) (Hc : SPiece) => (show (tcells eSurf T ++ r).take (0 + ((k : Int)).toNat * 11 + 8) ++ [.int .i64 e.buf.W, .int .i64 e.buf.H, d'] ++ (tcells eSurf T ++ r).drop (0 + ((k : Int)).toNat * 11 + 8 + 3) = tcells eSurf (T.set k ({ s.ss.getD k default with buf := e.buf }, d', Hc)) ++ r from by rw [k11]; exact tcells_buf (r := r) (i := e.buf) (d' := d') (Hc := Hc) (show k < T.length from by omega) hat.fst); refine cc_perm (L := [?pa, ?pb, [(b0, srow (tcells eSurf T ++ r) 62)] ++ (tpiece T ++ G), ?pc, ?pd, ?pe]) (L' := [?pa, ?pb, [(b0, srow (tcells eSurf T ++ r) 62)], tpiece T ++ G, [], ?pc, ?pd, ?pe]) (by simp) ?_; refine c_loopV (ι := Nat × Value × SPiece) (fun j => j.1 ≤ T.length ∧ OVec eSurf.k 62 j.2.1 (eraseTo T k j.1).length (tcells eSurf (eraseTo T k j.1)) j.2.2) (fun j => [(9, .int .i64 (j.1 : Int))]) (fun j => [[(_, srow [.int .i64 0, .int .i64 0, .int .i64 0, j.2.1] 26)], _, _, _, j.2.2, _, _, _]) (fun j => T.length - j.1) (0, .slice none 0 0, []) ⟨by dsimp only; omega, by dsimp only; rw [eraseTo_zero, tnil]; exact OVec.nil⟩ rfl (fun _ => rfl) ⟨rfl, trivial⟩ (fun w hw => hw) (fun j hj => ?_); obtain ⟨hj1, hj2⟩ := hj) | refine c_seq ?_ | refine c_regionN rfl ?_ | refine c_ret ?_ | (refine kCond ?_; (first | refine c_cond_t rfl ?_ | refine c_cond_f rfl ?_ | ((first | refine c_cond_d rfl (fun h => ?_) (fun h => ?_) | refine c_cond_n rfl (fun h => ?_) (fun h => ?_)) <;> (try (first | contradiction | (exfalso; omega) | (exfalso; exact absurd hok (by assumption)) | (exfalso; omega)))) | refine c_cond_nb rfl (fun h => ?_) (fun h => ?_) | refine c_cond rfl (fun h => ?_) (fun h => ?_))) | refine c_block ?_ | refine c_skip ?_ | refine c_exit ?_ | refine c_regionQN rfl rfl (by decide +kernel) ?_)) | apply s_stepQ | (refine kQG ?_; (first | refine s_gyesQ rfl rfl rfl ?_ | refine s_gnoQ rfl rfl rfl rfl rfl ?_ | ((first | refine s_splitQ_d rfl rfl (fun h => ?_) (fun h => ?_) | refine s_splitQ_n rfl rfl (fun h => ?_) (fun h => ?_)) <;> (try (first | contradiction | (exfalso; omega) | (exfalso; exact absurd hok (by assumption)) | (exfalso; omega)))) | refine s_splitQ_nb rfl rfl (fun h => ?_) (fun h => ?_) | refine s_splitQ rfl rfl (fun h => ?_) (fun h => ?_))) | refine lQ_then ?_ | refine lQ_ends ?_ | (refine kE ?_; (first | refine e_then_r ?_ | refine e_block_r ?_ | refine e_then_n ?_ | refine e_then_x ?_ | refine e_block_n ?_ | refine e_block_x ?_ | refine e_block_y rfl ?_)) | refine l_ends ?_)
  · exact e_round (j.1 + 1, _, H') ⟨by dsimp only; omega, by dsimp only; rw [eraseTo_succ dT (by omega), if_neg (by omega)]; exact hv'⟩ ⟨rfl, (by repeat' first | exact trivial | refine ⟨rfl, ?_⟩)⟩ (fun w hw => hw.picks (by (repeat' first | exact Picks.nil | exact gp_hd | apply gp_tl | apply Picks.cons); done) (by rfl)) (by dsimp only; omega)
  · exact e_round (j.1 + 1, j.2.1, j.2.2) ⟨by dsimp only; omega, by dsimp only; rw [eraseTo_succ dT (by omega), if_pos (by omega), List.append_nil]; exact hj2⟩ ⟨rfl, (by repeat' first | exact trivial | refine ⟨rfl, ?_⟩)⟩ (fun w hw => hw.picks (by (repeat' first | exact Picks.nil | exact gp_hd | apply gp_tl | apply Picks.cons); done) (by rfl)) (by dsimp only; omega)
  all_goals first
    | (have hno : ¬ doEditOk s e := fun hh => absurd hh.2.2 (by assumption)
       rw [doEdit_no hno, decide_eq_false hno]
       exact s_leaveN rfl rfl (SRes.cellG rfl rfl fwA (.tmp rfl .nil)) (fun w hw => ⟨_, _, rfl, ⟨_, rfl, hu⟩, hw.toFresh (H := H) gpA⟩) .ret (.inl rfl))
    | (have hyes : doEditOk s e := ⟨hok, hed, by assumption⟩
       rw [doEdit_yes hyes, decide_eq_true hyes]
       exact s_leaveN rfl rfl (SRes.cellG rfl rfl fwA (.tmp rfl .nil)) (fun w hw => ⟨_, _, rfl, ⟨_, rfl, hu9⟩, hw.toFresh (H := H9) gpA⟩) .ret (.inl rfl))
set_option maxHeartbeats 4000000 in
theorem c_sdoEditSize (k : Nat) (s : DScene) (e : DEdit) (v d : Value) (W : World) (hv : RS eSurf W v s.ss) (hd : RInts W d e.buf.data) (hl : surfsLen s.ss ≤ 2000000) (hel : e.buf.data.length ≤ 1000000000) (hok : s.ok) (hk : e.Kind = 8) (hi : surfaceIndex s.ss e.Id = (k : Int)) : SYieldsF Try.prog 75 #[vScene s v, vEdit e d] (fun u H => OSceneB u (doEdit s e) (decide (doEditOk s e)) H) W := by
  have hvf := hv.form
  obtain ⟨va, vc, rfl⟩ := hvf
  have hdf := hd.form
  obtain ⟨da, dc, rfl⟩ := hdf
  have hil := index_lt s.ss e.Id
  have hlen := hok.2.2.2.1
  have hidx : ∀ w, RS eSurf w (.slice va s.ss.length vc) s.ss → SYields Try.prog 41 #[vScene s (.slice va s.ss.length vc), .int .i64 e.Id] (.int .i64 (k : Int)) w := fun w hh => by rw [← hi]; exact c_ssurfaceIndex s _ _ w hh
  have hed : editable s e := .inr (.inr ⟨by omega, by omega⟩)
  have hes : edited s e = { s with ss := s.ss.set k { s.ss.getD k default with W := e.A, H := e.B } } := (by rw [edited_turn (by omega) hi]; unfold touched; rw [if_neg (by omega), if_neg (by omega), if_neg (by omega), if_neg (by omega), if_pos (by omega)])
  have hsc : ∀ w v', RS eSurf w v' (s.ss.set k { s.ss.getD k default with W := e.A, H := e.B }) → SYields Try.prog 84 #[.agg #[.int .i64 s.W, .int .i64 s.H, .int .i64 s.Back, v']] (.bool (decide (edited s e).ok)) w := fun w v' hh => by rw [hes]; exact c_ssceneOk { s with ss := s.ss.set k { s.ss.getD k default with W := e.A, H := e.B } } v' w hh
  have hcp : ∀ w v', (edited s e).ok → RS eSurf w v' (s.ss.set k { s.ss.getD k default with W := e.A, H := e.B }) → SYieldsF Try.prog 74 #[.agg #[.int .i64 s.W, .int .i64 s.H, .int .i64 s.Back, v']] (fun u H => OScene u (edited s e) H) w := fun w v' hh hh2 => by rw [hes] at hh ⊢; exact c_l10Copy { s with ss := s.ss.set k { s.ss.getD k default with W := e.A, H := e.B } } v' w hh2 (scene_len hh)
  (first | apply SYields.mk | apply SYieldsF.mk | skip); refine s_enter Try.func75 rfl Try.ntmps75 rfl ?_
  repeat' (first | exact rfl | (apply kO; (first | exact ov_pure rfl | (apply kOBin; (first | exact aBin)) | (apply kOCall; (first | (apply kCallF; (first | exact (ov_call rfl (fun w hw => hsc w _ (rd_turn hat { s.ss.getD k default with W := e.A, H := e.B } rfl (hs2 3 4 _ _ _ (by omega) (by omega) rfl) (hfA hw) (hfA hw)))) | exact (ov_call rfl (fun w hw => c_ssceneOk s _ w (hv.keep (hw.cells rfl)))) | exact (ov_call rfl (fun w hw => hidx w (hv.keep (hw.cells rfl)))) | exact (ov_call rfl (fun w hw => c_l01In _ _ _ w)))) | (apply kCallB; (first | exact aBlt | exact aLenR)))) | (apply kOLoad; (first | exact (ov_ldRZ (fun w hw => trow h1 (hfA hw)) rfl rfl (by omega) rfl) | exact aLdF | exact aLdR)) | exact ov_fieldAddr rfl | (apply kOIdx; (first | exact (ov_indexAddr rfl rfl (by omega)) | exact (ov_idxR (fun w hw => trow h1 (hfA hw)) rfl rfl (by omega)) | exact aIdx)) | exact aRest | exact aNew | exact (ov_field1 (ft := 37) rfl rfl rfl rfl))) | (refine kN ?_; (first | (refine kCall ?_; (first | (refine kWFn 74 ?_; (refine s_callF (fun u H => OScene u (edited s e) H) rfl (fun w hw => hcp w _ (by assumption) (rd_turn hat { s.ss.getD k default with W := e.A, H := e.B } rfl (hs2 3 4 _ _ _ (by omega) (by omega) rfl) (hfA hw) (hfA hw))) rfl (fun u H9 hu9 => ?_); obtain ⟨v9, rfl, hu9⟩ := hu9; have f1 := hu9.form; obtain ⟨_, _, rfl⟩ := f1)) | (refine kWFn 74 ?_; (refine s_callF (fun u H => OScene u s H) rfl (fun w hw => c_l10Copy s _ w (hv.keep (hw.cells rfl)) hl) rfl (fun u H hu => ?_); obtain ⟨v6, rfl, hu⟩ := hu)) | (refine kWApp ?_; (refine s_appendT _ _ (T.getD j.1 dT) rfl rfl hj2 gpA gpA (eSurf_ones (OInts.one (show OInts _ _ _ _ from h2 _ (getT_mem (by omega))))) (by rw [scells_eq]; rfl) (by have := hel2 j.1; omega) (by decide) rfl (fun v' H' hv' => ?_); have f1 := OVec.form hv'; obtain ⟨ua, uc, rfl⟩ := f1)) | apply s_step)) | (refine kStore ?_; (first | (refine s_storeS _ rfl rfl gpA rfl (ones_cons rfl (ones_cons rfl (ones_cons rfl (ones_cons (OElems.one (by assumption)) rfl)))) (by rfl) ?_) | (refine s_setR _ rfl rfl gpA rfl (by (try simp only [List.length_set]); rw [hln]; omega) ?_) | refine s_store1 _ rfl rfl gpA rfl (by rfl) ?_ | refine s_storeS _ rfl rfl gpA rfl rfl (by rfl) ?_ | refine s_storeS _ rfl rfl gpA rfl (ones_img oiA) (by rfl) ?_)) | refine s_boxS rfl rfl (fun b hb => ?_) | refine s_allocS rfl (fun b hb => ?_) | refine s_box1 rfl rfl rfl (fun b hb => ?_) | refine s_alloc1 rfl rfl (fun b hb => ?_) | refine s_buildSlice0 rfl (fun b hb => ?_) | refine s_buildSlice rfl rfl rfl rfl rfl (fun b hb => ?_) | apply s_step)) | (refine kG ?_; (first | refine s_gyes rfl rfl rfl ?_ | refine s_gno rfl rfl rfl rfl rfl ?_ | ((first | refine s_split_d rfl rfl (fun h => ?_) (fun h => ?_) | refine s_split_n rfl rfl (fun h => ?_) (fun h => ?_)) <;> (try (first | contradiction | (exfalso; omega) | (exfalso; exact absurd hok (by assumption)) | (exfalso; omega)))) | refine s_split_nb rfl rfl (fun h => ?_) (fun h => ?_) | refine s_split rfl rfl (fun h => ?_) (fun h => ?_))) | (refine kS ?_; (first | refine h_exec rfl ?_ | refine h_take_nil rfl rfl rfl ?_ | refine h_take_pick rfl rfl rfl ?_ | refine h_nil ?_ | refine h_alt ?_ ?_ | apply h_take)) | (refine kBack ?_; (first | refine h_back_last rfl ?_ | refine h_backN rfl subA ?_)) | refine l_then ?_ | (refine kC ?_; (first | (refine kReg 10 ?_; refine c_regionSubN (SPlan.take 0 (SPlan.take 1 (SPlan.take 2 (SPlan.take 3 (SPlan.take 4 (SPlan.take 5 (SPlan.take 6 (SPlan.run 7 (SPlan.run 8 (SPlan.take 9 (SPlan.run 10 SPlan.done))))))))))) (some 10) [true, true, true, true, false, true, true, true] rfl rfl rfl (by decide +kernel) ?_) | (refine kLoop 7 ?_; obtain ⟨T, H0, G, hT, h1, h2, rfl⟩ := OElems.tri hu; have hTl : T.length = s.ss.length := (by rw [← hT, List.length_map]); obtain ⟨b0, cap, r, rfl, rfl, h4, h5, h6, h7⟩ := (ovec_split h1).resolve_left (fun hh => (by have := hh.2.1; omega)); have hat : EdAt s k T b0 cap r := ⟨hT, by omega, h2, h5, h6, h7⟩; have hln := hat.len; have hel2 := fun i => eraseTo_length T k i; have hs1 := fun (o : Nat) (u : Value) (a' : DSurf) (ho : o < 11) (he : (eSurf.cells (s.ss.getD k default) (T.getD k dT).2.1).set o u = eSurf.cells a' (T.getD k dT).2.1) => (show (tcells eSurf T ++ r).set (0 + ((k : Int)).toNat * 11 + o) u = tcells eSurf (T.set k (a', (T.getD k dT).2.1, (T.getD k dT).2.2)) ++ r from by rw [k11]; exact tcells_set (r := r) (show k < T.length from by omega) ho (by rw [hat.fst]; exact he)); have hs2 := fun (o o2 : Nat) (u u2 : Value) (a' : DSurf) (ho : o < 11) (ho2 : o2 < 11) (he : ((eSurf.cells (s.ss.getD k default) (T.getD k dT).2.1).set o u).set o2 u2 = eSurf.cells a' (T.getD k dT).2.1) => (show ((tcells eSurf T ++ r).set (0 + ((k : Int)).toNat * 11 + o) u).set (0 + ((k : Int)).toNat * 11 + o2) u2 = tcells eSurf (T.set k (a', (T.getD k dT).2.1, (T.getD k dT).2.2)) ++ r from by rw [k11]; exact tcells_set2 (r := r) (show k < T.length from by omega) ho ho2 (by rw [hat.fst]; exact he)); have hs5 := fun (d' : Value) (Hc : SPiece) => (show (tcells eSurf T ++ r).take (0 + ((k : Int)).toNat * 11 + 8) ++ [.int .i64 e.buf.W, .int .i64 e.buf.H, d'] ++ (tcells eSurf T ++ r).drop (0 + ((k : Int)).toNat * 11 + 8 + 3) = tcells eSurf (T.set k ({ s.ss.getD k default with buf := e.buf }, d', Hc)) ++ r from by rw [k11]; exact tcells_buf (r := r) (i := e.buf) (d' := d') (Hc := Hc) (show k < T.length from by omega) hat.fst); refine cc_perm (L := [?pa, ?pb, [(b0, srow (tcells eSurf T ++ r) 62)] ++ (tpiece T ++ G), ?pc, ?pd, ?pe]) (L' := [?pa, ?pb, [(b0, srow (tcells eSurf T ++ r) 62)], tpiece T ++ G, [], ?pc, ?pd, ?pe]) (by simp) ?_; refine c_loopV (ι := Nat × Value × SPiece) (fun j => j.1 ≤ T.length ∧ OVec eSurf.k 62 j.2.1 (eraseTo T k j.1).length (tcells eSurf (eraseTo T k j.1)) j.2.2) (fun j => [(9, .int .i64 (j.1 : Int))]) (fun j => [[(_, srow [.int .i64 0, .int .i64 0, .int .i64 0, j.2.1] 26)], _, _, _, j.2.2, _, _, _]) (fun j => T.length - j.1) (0, .slice none 0 0, []) ⟨by dsimp only; omega, by dsimp only; rw [eraseTo_zero, tnil]; exact OVec.nil⟩ rfl (fun _ => rfl) ⟨rfl, trivial⟩ (fun w hw => hw) (fun j hj => ?_); obtain ⟨hj1, hj2⟩ := hj) | refine c_seq ?_ | refine c_regionN rfl ?_ | refine c_ret ?_ | (refine kCond ?_; (first | refine c_cond_t rfl ?_ | refine c_cond_f rfl ?_ | ((first | refine c_cond_d rfl (fun h => ?_) (fun h => ?_) | refine c_cond_n rfl (fun h => ?_) (fun h => ?_)) <;> (try (first | contradiction | (exfalso; omega) | (exfalso; exact absurd hok (by assumption)) | (exfalso; omega)))) | refine c_cond_nb rfl (fun h => ?_) (fun h => ?_) | refine c_cond rfl (fun h => ?_) (fun h => ?_))) | refine c_block ?_ | refine c_skip ?_ | refine c_exit ?_ | refine c_regionQN rfl rfl (by decide +kernel) ?_)) | apply s_stepQ | (refine kQG ?_; (first | refine s_gyesQ rfl rfl rfl ?_ | refine s_gnoQ rfl rfl rfl rfl rfl ?_ | ((first | refine s_splitQ_d rfl rfl (fun h => ?_) (fun h => ?_) | refine s_splitQ_n rfl rfl (fun h => ?_) (fun h => ?_)) <;> (try (first | contradiction | (exfalso; omega) | (exfalso; exact absurd hok (by assumption)) | (exfalso; omega)))) | refine s_splitQ_nb rfl rfl (fun h => ?_) (fun h => ?_) | refine s_splitQ rfl rfl (fun h => ?_) (fun h => ?_))) | refine lQ_then ?_ | refine lQ_ends ?_ | (refine kE ?_; (first | refine e_then_r ?_ | refine e_block_r ?_ | refine e_then_n ?_ | refine e_then_x ?_ | refine e_block_n ?_ | refine e_block_x ?_ | refine e_block_y rfl ?_)) | refine l_ends ?_)
  · exact e_round (j.1 + 1, _, H') ⟨by dsimp only; omega, by dsimp only; rw [eraseTo_succ dT (by omega), if_neg (by omega)]; exact hv'⟩ ⟨rfl, (by repeat' first | exact trivial | refine ⟨rfl, ?_⟩)⟩ (fun w hw => hw.picks (by (repeat' first | exact Picks.nil | exact gp_hd | apply gp_tl | apply Picks.cons); done) (by rfl)) (by dsimp only; omega)
  · exact e_round (j.1 + 1, j.2.1, j.2.2) ⟨by dsimp only; omega, by dsimp only; rw [eraseTo_succ dT (by omega), if_pos (by omega), List.append_nil]; exact hj2⟩ ⟨rfl, (by repeat' first | exact trivial | refine ⟨rfl, ?_⟩)⟩ (fun w hw => hw.picks (by (repeat' first | exact Picks.nil | exact gp_hd | apply gp_tl | apply Picks.cons); done) (by rfl)) (by dsimp only; omega)
  all_goals first
    | (have hno : ¬ doEditOk s e := fun hh => absurd hh.2.2 (by assumption)
       rw [doEdit_no hno, decide_eq_false hno]
       exact s_leaveN rfl rfl (SRes.cellG rfl rfl fwA (.tmp rfl .nil)) (fun w hw => ⟨_, _, rfl, ⟨_, rfl, hu⟩, hw.toFresh (H := H) gpA⟩) .ret (.inl rfl))
    | (have hyes : doEditOk s e := ⟨hok, hed, by assumption⟩
       rw [doEdit_yes hyes, decide_eq_true hyes]
       exact s_leaveN rfl rfl (SRes.cellG rfl rfl fwA (.tmp rfl .nil)) (fun w hw => ⟨_, _, rfl, ⟨_, rfl, hu9⟩, hw.toFresh (H := H9) gpA⟩) .ret (.inl rfl))
set_option maxHeartbeats 4000000 in
theorem c_sdoEditVisible (k : Nat) (s : DScene) (e : DEdit) (v d : Value) (W : World) (hv : RS eSurf W v s.ss) (hd : RInts W d e.buf.data) (hl : surfsLen s.ss ≤ 2000000) (hel : e.buf.data.length ≤ 1000000000) (hok : s.ok) (hk : e.Kind = 9) (hi : surfaceIndex s.ss e.Id = (k : Int)) : SYieldsF Try.prog 75 #[vScene s v, vEdit e d] (fun u H => OSceneB u (doEdit s e) (decide (doEditOk s e)) H) W := by
  have hvf := hv.form
  obtain ⟨va, vc, rfl⟩ := hvf
  have hdf := hd.form
  obtain ⟨da, dc, rfl⟩ := hdf
  have hil := index_lt s.ss e.Id
  have hlen := hok.2.2.2.1
  have hidx : ∀ w, RS eSurf w (.slice va s.ss.length vc) s.ss → SYields Try.prog 41 #[vScene s (.slice va s.ss.length vc), .int .i64 e.Id] (.int .i64 (k : Int)) w := fun w hh => by rw [← hi]; exact c_ssurfaceIndex s _ _ w hh
  have hed : editable s e := .inr (.inr ⟨by omega, by omega⟩)
  have hes : edited s e = { s with ss := s.ss.set k { s.ss.getD k default with Visible := decide (e.A = 1) } } := (by rw [edited_turn (by omega) hi]; unfold touched; rw [if_neg (by omega), if_neg (by omega), if_neg (by omega), if_neg (by omega), if_neg (by omega)])
  have hsc : ∀ w v', RS eSurf w v' (s.ss.set k { s.ss.getD k default with Visible := decide (e.A = 1) }) → SYields Try.prog 84 #[.agg #[.int .i64 s.W, .int .i64 s.H, .int .i64 s.Back, v']] (.bool (decide (edited s e).ok)) w := fun w v' hh => by rw [hes]; exact c_ssceneOk { s with ss := s.ss.set k { s.ss.getD k default with Visible := decide (e.A = 1) } } v' w hh
  have hcp : ∀ w v', (edited s e).ok → RS eSurf w v' (s.ss.set k { s.ss.getD k default with Visible := decide (e.A = 1) }) → SYieldsF Try.prog 74 #[.agg #[.int .i64 s.W, .int .i64 s.H, .int .i64 s.Back, v']] (fun u H => OScene u (edited s e) H) w := fun w v' hh hh2 => by rw [hes] at hh ⊢; exact c_l10Copy { s with ss := s.ss.set k { s.ss.getD k default with Visible := decide (e.A = 1) } } v' w hh2 (scene_len hh)
  (first | apply SYields.mk | apply SYieldsF.mk | skip); refine s_enter Try.func75 rfl Try.ntmps75 rfl ?_
  repeat' (first | exact rfl | (apply kO; (first | exact ov_pure rfl | (apply kOBin; (first | exact aBin)) | (apply kOCall; (first | (apply kCallF; (first | exact (ov_call rfl (fun w hw => hsc w _ (rd_turn hat { s.ss.getD k default with Visible := decide (e.A = 1) } rfl (hs1 7 _ _ (by omega) rfl) (hfA hw) (hfA hw)))) | exact (ov_call rfl (fun w hw => c_ssceneOk s _ w (hv.keep (hw.cells rfl)))) | exact (ov_call rfl (fun w hw => hidx w (hv.keep (hw.cells rfl)))) | exact (ov_call rfl (fun w hw => c_l01In _ _ _ w)))) | (apply kCallB; (first | exact aBlt | exact aLenR)))) | (apply kOLoad; (first | exact (ov_ldRZ (fun w hw => trow h1 (hfA hw)) rfl rfl (by omega) rfl) | exact aLdF | exact aLdR)) | exact ov_fieldAddr rfl | (apply kOIdx; (first | exact (ov_indexAddr rfl rfl (by omega)) | exact (ov_idxR (fun w hw => trow h1 (hfA hw)) rfl rfl (by omega)) | exact aIdx)) | exact aRest | exact aNew | exact (ov_field1 (ft := 37) rfl rfl rfl rfl))) | (refine kN ?_; (first | (refine kCall ?_; (first | (refine kWFn 74 ?_; (refine s_callF (fun u H => OScene u (edited s e) H) rfl (fun w hw => hcp w _ (by assumption) (rd_turn hat { s.ss.getD k default with Visible := decide (e.A = 1) } rfl (hs1 7 _ _ (by omega) rfl) (hfA hw) (hfA hw))) rfl (fun u H9 hu9 => ?_); obtain ⟨v9, rfl, hu9⟩ := hu9; have f1 := hu9.form; obtain ⟨_, _, rfl⟩ := f1)) | (refine kWFn 74 ?_; (refine s_callF (fun u H => OScene u s H) rfl (fun w hw => c_l10Copy s _ w (hv.keep (hw.cells rfl)) hl) rfl (fun u H hu => ?_); obtain ⟨v6, rfl, hu⟩ := hu)) | (refine kWApp ?_; (refine s_appendT _ _ (T.getD j.1 dT) rfl rfl hj2 gpA gpA (eSurf_ones (OInts.one (show OInts _ _ _ _ from h2 _ (getT_mem (by omega))))) (by rw [scells_eq]; rfl) (by have := hel2 j.1; omega) (by decide) rfl (fun v' H' hv' => ?_); have f1 := OVec.form hv'; obtain ⟨ua, uc, rfl⟩ := f1)) | apply s_step)) | (refine kStore ?_; (first | (refine s_storeS _ rfl rfl gpA rfl (ones_cons rfl (ones_cons rfl (ones_cons rfl (ones_cons (OElems.one (by assumption)) rfl)))) (by rfl) ?_) | (refine s_setR _ rfl rfl gpA rfl (by (try simp only [List.length_set]); rw [hln]; omega) ?_) | refine s_store1 _ rfl rfl gpA rfl (by rfl) ?_ | refine s_storeS _ rfl rfl gpA rfl rfl (by rfl) ?_ | refine s_storeS _ rfl rfl gpA rfl (ones_img oiA) (by rfl) ?_)) | refine s_boxS rfl rfl (fun b hb => ?_) | refine s_allocS rfl (fun b hb => ?_) | refine s_box1 rfl rfl rfl (fun b hb => ?_) | refine s_alloc1 rfl rfl (fun b hb => ?_) | refine s_buildSlice0 rfl (fun b hb => ?_) | refine s_buildSlice rfl rfl rfl rfl rfl (fun b hb => ?_) | apply s_step)) | (refine kG ?_; (first | refine s_gyes rfl rfl rfl ?_ | refine s_gno rfl rfl rfl rfl rfl ?_ | ((first | refine s_split_d rfl rfl (fun h => ?_) (fun h => ?_) | refine s_split_n rfl rfl (fun h => ?_) (fun h => ?_)) <;> (try (first | contradiction | (exfalso; omega) | (exfalso; exact absurd hok (by assumption)) | (exfalso; omega)))) | refine s_split_nb rfl rfl (fun h => ?_) (fun h => ?_) | refine s_split rfl rfl (fun h => ?_) (fun h => ?_))) | (refine kS ?_; (first | refine h_exec rfl ?_ | refine h_take_nil rfl rfl rfl ?_ | refine h_take_pick rfl rfl rfl ?_ | refine h_nil ?_ | refine h_alt ?_ ?_ | apply h_take)) | (refine kBack ?_; (first | refine h_back_last rfl ?_ | refine h_backN rfl subA ?_)) | refine l_then ?_ | (refine kC ?_; (first | (refine kReg 10 ?_; refine c_regionSubN (SPlan.take 0 (SPlan.take 1 (SPlan.take 2 (SPlan.take 3 (SPlan.take 4 (SPlan.take 5 (SPlan.take 6 (SPlan.run 7 (SPlan.run 8 (SPlan.take 9 (SPlan.run 10 SPlan.done))))))))))) (some 10) [true, true, true, true, false, true, true, true] rfl rfl rfl (by decide +kernel) ?_) | (refine kLoop 7 ?_; obtain ⟨T, H0, G, hT, h1, h2, rfl⟩ := OElems.tri hu; have hTl : T.length = s.ss.length := (by rw [← hT, List.length_map]); obtain ⟨b0, cap, r, rfl, rfl, h4, h5, h6, h7⟩ := (ovec_split h1).resolve_left (fun hh => (by have := hh.2.1; omega)); have hat : EdAt s k T b0 cap r := ⟨hT, by omega, h2, h5, h6, h7⟩; have hln := hat.len; have hel2 := fun i => eraseTo_length T k i; have hs1 := fun (o : Nat) (u : Value) (a' : DSurf) (ho : o < 11) (he : (eSurf.cells (s.ss.getD k default) (T.getD k dT).2.1).set o u = eSurf.cells a' (T.getD k dT).2.1) => (show (tcells eSurf T ++ r).set (0 + ((k : Int)).toNat * 11 + o) u = tcells eSurf (T.set k (a', (T.getD k dT).2.1, (T.getD k dT).2.2)) ++ r from by rw [k11]; exact tcells_set (r := r) (show k < T.length from by omega) ho (by rw [hat.fst]; exact he)); have hs2 := fun (o o2 : Nat) (u u2 : Value) (a' : DSurf) (ho : o < 11) (ho2 : o2 < 11) (he : ((eSurf.cells (s.ss.getD k default) (T.getD k dT).2.1).set o u).set o2 u2 = eSurf.cells a' (T.getD k dT).2.1) => (show ((tcells eSurf T ++ r).set (0 + ((k : Int)).toNat * 11 + o) u).set (0 + ((k : Int)).toNat * 11 + o2) u2 = tcells eSurf (T.set k (a', (T.getD k dT).2.1, (T.getD k dT).2.2)) ++ r from by rw [k11]; exact tcells_set2 (r := r) (show k < T.length from by omega) ho ho2 (by rw [hat.fst]; exact he)); have hs5 := fun (d' : Value) (Hc : SPiece) => (show (tcells eSurf T ++ r).take (0 + ((k : Int)).toNat * 11 + 8) ++ [.int .i64 e.buf.W, .int .i64 e.buf.H, d'] ++ (tcells eSurf T ++ r).drop (0 + ((k : Int)).toNat * 11 + 8 + 3) = tcells eSurf (T.set k ({ s.ss.getD k default with buf := e.buf }, d', Hc)) ++ r from by rw [k11]; exact tcells_buf (r := r) (i := e.buf) (d' := d') (Hc := Hc) (show k < T.length from by omega) hat.fst); refine cc_perm (L := [?pa, ?pb, [(b0, srow (tcells eSurf T ++ r) 62)] ++ (tpiece T ++ G), ?pc, ?pd, ?pe]) (L' := [?pa, ?pb, [(b0, srow (tcells eSurf T ++ r) 62)], tpiece T ++ G, [], ?pc, ?pd, ?pe]) (by simp) ?_; refine c_loopV (ι := Nat × Value × SPiece) (fun j => j.1 ≤ T.length ∧ OVec eSurf.k 62 j.2.1 (eraseTo T k j.1).length (tcells eSurf (eraseTo T k j.1)) j.2.2) (fun j => [(9, .int .i64 (j.1 : Int))]) (fun j => [[(_, srow [.int .i64 0, .int .i64 0, .int .i64 0, j.2.1] 26)], _, _, _, j.2.2, _, _, _]) (fun j => T.length - j.1) (0, .slice none 0 0, []) ⟨by dsimp only; omega, by dsimp only; rw [eraseTo_zero, tnil]; exact OVec.nil⟩ rfl (fun _ => rfl) ⟨rfl, trivial⟩ (fun w hw => hw) (fun j hj => ?_); obtain ⟨hj1, hj2⟩ := hj) | refine c_seq ?_ | refine c_regionN rfl ?_ | refine c_ret ?_ | (refine kCond ?_; (first | refine c_cond_t rfl ?_ | refine c_cond_f rfl ?_ | ((first | refine c_cond_d rfl (fun h => ?_) (fun h => ?_) | refine c_cond_n rfl (fun h => ?_) (fun h => ?_)) <;> (try (first | contradiction | (exfalso; omega) | (exfalso; exact absurd hok (by assumption)) | (exfalso; omega)))) | refine c_cond_nb rfl (fun h => ?_) (fun h => ?_) | refine c_cond rfl (fun h => ?_) (fun h => ?_))) | refine c_block ?_ | refine c_skip ?_ | refine c_exit ?_ | refine c_regionQN rfl rfl (by decide +kernel) ?_)) | apply s_stepQ | (refine kQG ?_; (first | refine s_gyesQ rfl rfl rfl ?_ | refine s_gnoQ rfl rfl rfl rfl rfl ?_ | ((first | refine s_splitQ_d rfl rfl (fun h => ?_) (fun h => ?_) | refine s_splitQ_n rfl rfl (fun h => ?_) (fun h => ?_)) <;> (try (first | contradiction | (exfalso; omega) | (exfalso; exact absurd hok (by assumption)) | (exfalso; omega)))) | refine s_splitQ_nb rfl rfl (fun h => ?_) (fun h => ?_) | refine s_splitQ rfl rfl (fun h => ?_) (fun h => ?_))) | refine lQ_then ?_ | refine lQ_ends ?_ | (refine kE ?_; (first | refine e_then_r ?_ | refine e_block_r ?_ | refine e_then_n ?_ | refine e_then_x ?_ | refine e_block_n ?_ | refine e_block_x ?_ | refine e_block_y rfl ?_)) | refine l_ends ?_)
  · exact e_round (j.1 + 1, _, H') ⟨by dsimp only; omega, by dsimp only; rw [eraseTo_succ dT (by omega), if_neg (by omega)]; exact hv'⟩ ⟨rfl, (by repeat' first | exact trivial | refine ⟨rfl, ?_⟩)⟩ (fun w hw => hw.picks (by (repeat' first | exact Picks.nil | exact gp_hd | apply gp_tl | apply Picks.cons); done) (by rfl)) (by dsimp only; omega)
  · exact e_round (j.1 + 1, j.2.1, j.2.2) ⟨by dsimp only; omega, by dsimp only; rw [eraseTo_succ dT (by omega), if_pos (by omega), List.append_nil]; exact hj2⟩ ⟨rfl, (by repeat' first | exact trivial | refine ⟨rfl, ?_⟩)⟩ (fun w hw => hw.picks (by (repeat' first | exact Picks.nil | exact gp_hd | apply gp_tl | apply Picks.cons); done) (by rfl)) (by dsimp only; omega)
  all_goals first
    | (have hno : ¬ doEditOk s e := fun hh => absurd hh.2.2 (by assumption)
       rw [doEdit_no hno, decide_eq_false hno]
       exact s_leaveN rfl rfl (SRes.cellG rfl rfl fwA (.tmp rfl .nil)) (fun w hw => ⟨_, _, rfl, ⟨_, rfl, hu⟩, hw.toFresh (H := H) gpA⟩) .ret (.inl rfl))
    | (have hyes : doEditOk s e := ⟨hok, hed, by assumption⟩
       rw [doEdit_yes hyes, decide_eq_true hyes]
       exact s_leaveN rfl rfl (SRes.cellG rfl rfl fwA (.tmp rfl .nil)) (fun w hw => ⟨_, _, rfl, ⟨_, rfl, hu9⟩, hw.toFresh (H := H9) gpA⟩) .ret (.inl rfl))
end Go.Proofs.Ytakijgpoaeggnaa
namespace Go.Proofs.Ytakijgpoaeggnaa
open Go Sx
attribute [local irreducible] Exit.then Exit.inBlock bodyPost tcells OInts OElems
theorem up_rows {T : List (ETri DSurf)} {t : ETri DSurf} {m cap q : Nat} {r : List Value} (hl : T.length = m) (hr : (tcells eSurf T ++ r).length = cap * 11) (hm : m + 1 ≤ cap) (hq : q = 11) :
    (tcells eSurf T ++ r).take (m * 11) ++ eSurf.cells t.1 t.2.1 ++ (tcells eSurf T ++ r).drop (m * 11 + q) = tcells eSurf (T ++ [t]) ++ r.drop 11 ∧ (tcells eSurf (T ++ [t]) ++ r.drop 11).length = cap * 11 := by
  have h1 : (tcells eSurf T).length = m * 11 := by rw [tcells_length, hl]; rfl
  have h2 : (tcells eSurf T).drop (m * 11 + q) = [] := List.drop_of_length_le (by omega)
  have h3 : (eSurf.cells t.1 t.2.1).length = 11 := eSurf.klen _ _
  rw [List.length_append, h1] at hr
  constructor
  · rw [List.take_left' h1, List.drop_append, h2, h1, List.nil_append, show m * 11 + q - m * 11 = 11 by omega, tcells_append, tcells_one]
  · rw [tcells_append, tcells_one, List.length_append, List.length_append, List.length_drop, h1, h3]; omega
set_option maxHeartbeats 4000000 in
theorem c_editedRaise (s : DScene) (e : DEdit) (d : Value) (bo b0 cap k : Nat) (T : List (ETri DSurf)) (r : List Value) (G : SPiece) (W : World) (hat : EdAt s k T b0 cap r) (hk : e.Kind = 3) (hi : surfaceIndex s.ss e.Id = (k : Int)) (hd : RInts W d e.buf.data)
    (hH : Holds W (EdIn bo b0 cap s T r G)) (hn : (EdIn bo b0 cap s T r G).keys.Nodup) :
    SYieldsG Try.prog 105 #[.pointer (some ⟨bo, 0, none⟩), vEdit e d] (EdIn bo b0 cap s T r G) (fun u H' F => u = .bool true ∧ EdOut bo (edited s e) H' ∧ F = []) W := by
  have hes : edited s e = { s with ss := s.ss.eraseIdx k ++ [s.ss.getD k default] } := by rw [edited_k ⟨by omega, by omega⟩, editK_raise hk, hi, Int.toNat_natCast]
  rw [hes]
  have hdf := hd.form
  obtain ⟨da, dc, rfl⟩ := hdf
  have hcap := hat.cap1
  have hkin := hat.kin
  have hlen := hat.len
  have hcm : cap ≤ 9223372036854775807 := Nat.le_trans hat.cap2 (by decide)
  have hel : (T.eraseIdx k).length = T.length - 1 := List.length_eraseIdx_of_lt hkin
  have hone := OInts.one (show OInts 3 _ _ _ from hat.own _ (getT_mem hkin))
  have hidx : ∀ w, RS eSurf w (.slice (some ⟨b0, 0, none⟩) T.length cap) s.ss → SYields Try.prog 40 #[vScene s (.slice (some ⟨b0, 0, none⟩) T.length cap), .int .i64 e.Id] (.int .i64 (k : Int)) w := fun w h => by rw [← hi]; exact c_isurfaceIndex s _ _ w h
  refine SYieldsG.mk (s_enterM Try.func105 rfl Try.ntmps105 rfl hH hn ?_)
  refine cc_perm (L' := [[(bo, srow [.int .i64 s.W, .int .i64 s.H, .int .i64 s.Back, .slice (some ⟨b0, 0, none⟩) T.length cap] 26)], [(b0, srow (tcells eSurf T ++ r) 62)], tpiece T ++ G]) (by simp) ?_
  repeat' (first | exact rfl | (apply kO; (first | exact ov_pure rfl | (apply kOBin; (first | exact aBin)) | (apply kOCall; (first | (apply kCallF; (first | exact (ov_call rfl (fun w hw => hidx w (OElems.rs hat.elems (holds_app (hfA hw) (hfA hw))))))) | (apply kCallB; (first | exact aBlt | exact aLenR)))) | (apply kOLoad; (first | exact (ov_ldRZ (fun w hw => trow hat.vec (hfA hw)) rfl rfl (by omega) rfl) | exact aLdF | exact aLdR)) | exact ov_fieldAddr rfl | (apply kOIdx; (first | exact (ov_indexAddr rfl rfl (by omega)) | exact aIdx)) | exact aRest | exact aNew | exact (ov_field1 (ft := 37) rfl rfl rfl rfl))) | (refine kN ?_; (first | (refine kCall ?_; (first | (refine kWApp ?_; (refine s_appendIn _ (ys := eSurf.cells (T.getD k dT).1 (T.getD k dT).2.1) rfl rfl gpA hr' rfl (eSurf_ones hone) (fun w hw j q hj => by rw [Addr.add_lit, Nat.zero_add]; exact hw.captured gpA j q hj) (by omega) rfl ?_)) | (refine kWFn 167 ?_; (refine s_callG _ (fun u H' F => u = .slice (some ⟨b0, 0, none⟩) (T.length - 1) cap ∧ (∃ r', H' = [(b0, srow (tcells eSurf (T.eraseIdx k) ++ r') 62)] ∧ (tcells eSurf (T.eraseIdx k) ++ r').length = cap * 11) ∧ F = []) rfl gpA (fun w hw hh hn => c_deleteS b0 cap k T r w hkin hcap hlen hat.cap2 (tcells_ones hat.own) hh hn) rfl (fun u H' F hst => ?_); obtain ⟨rfl, ⟨r', rfl, hr'⟩, rfl⟩ := hst)) | apply s_step)) | (refine kStore ?_; (first | (refine s_storeS _ rfl rfl gpA rfl (eSurf_ones hone) (by rfl) ?_) | refine s_store1 _ rfl rfl gpA rfl (by rfl) ?_ | refine s_storeS _ rfl rfl gpA rfl rfl (by rfl) ?_ | refine s_storeS _ rfl rfl gpA rfl (ones_img oiA) (by rfl) ?_)) | refine s_boxS rfl rfl (fun b hb => ?_) | refine s_allocS rfl (fun b hb => ?_) | refine s_box1 rfl rfl rfl (fun b hb => ?_) | refine s_alloc1 rfl rfl (fun b hb => ?_) | refine s_buildSlice0 rfl (fun b hb => ?_) | refine s_buildSlice rfl rfl rfl rfl rfl (fun b hb => ?_) | apply s_step)) | (refine kG ?_; (first | refine s_gyes rfl rfl rfl ?_ | refine s_gno rfl rfl rfl rfl rfl ?_ | ((first | refine s_split_d rfl rfl (fun h => ?_) (fun h => ?_) | refine s_split_n rfl rfl (fun h => ?_) (fun h => ?_)) <;> (try (first | contradiction | (exfalso; omega)))) | refine s_split_nb rfl rfl (fun h => ?_) (fun h => ?_) | refine s_split rfl rfl (fun h => ?_) (fun h => ?_))) | (refine kS ?_; (first | refine h_exec rfl ?_ | refine h_take_nil rfl rfl rfl ?_ | refine h_take_pick rfl rfl rfl ?_ | refine h_nil ?_ | refine h_alt ?_ ?_ | apply h_take)) | (refine kBack ?_; (first | refine h_back_last rfl ?_ | refine h_backN rfl subA ?_)) | refine l_then ?_ | (refine kC ?_; (first | (refine kReg 20 ?_; refine c_regionSubN (SPlan.take 0 (SPlan.take 1 (SPlan.take 2 (SPlan.take 3 (SPlan.take 5 (SPlan.take 6 (SPlan.take 7 (SPlan.take 9 ((SPlan.run 4 ((SPlan.run 8 (SPlan.run 10 (SPlan.run 11 (SPlan.take 12 (SPlan.take 13 (SPlan.run 14 SPlan.done)))))).alt (SPlan.run 10 (SPlan.run 8 (SPlan.run 11 (SPlan.take 12 (SPlan.take 13 (SPlan.run 14 SPlan.done)))))))).alt (SPlan.run 10 (SPlan.run 4 (SPlan.run 8 (SPlan.run 11 (SPlan.take 12 (SPlan.take 13 (SPlan.run 14 SPlan.done)))))))))))))))) none [true, true, false, false, true] rfl rfl rfl (by decide +kernel) ?_) | refine c_seq ?_ | refine c_regionN rfl ?_ | refine c_ret ?_ | (refine kCond ?_; (first | refine c_cond_t rfl ?_ | refine c_cond_f rfl ?_ | ((first | refine c_cond_d rfl (fun h => ?_) (fun h => ?_) | refine c_cond_n rfl (fun h => ?_) (fun h => ?_)) <;> (try (first | contradiction | (exfalso; omega)))) | refine c_cond_nb rfl (fun h => ?_) (fun h => ?_) | refine c_cond rfl (fun h => ?_) (fun h => ?_))) | refine c_block ?_ | refine c_skip ?_ | refine c_exit ?_ | refine c_regionQN rfl rfl (by decide +kernel) ?_)) | apply s_stepQ | (refine kQG ?_; (first | refine s_gyesQ rfl rfl rfl ?_ | refine s_gnoQ rfl rfl rfl rfl rfl ?_ | ((first | refine s_splitQ_d rfl rfl (fun h => ?_) (fun h => ?_) | refine s_splitQ_n rfl rfl (fun h => ?_) (fun h => ?_)) <;> (try (first | contradiction | (exfalso; omega)))) | refine s_splitQ_nb rfl rfl (fun h => ?_) (fun h => ?_) | refine s_splitQ rfl rfl (fun h => ?_) (fun h => ?_))) | refine lQ_then ?_ | refine lQ_ends ?_ | (refine kE ?_; (first | refine e_then_r ?_ | refine e_block_r ?_ | refine e_then_n ?_ | refine e_then_x ?_ | refine e_block_n ?_ | refine e_block_x ?_ | refine e_block_y rfl ?_)) | refine l_ends ?_)
  all_goals
    have hu2 := up_rows (t := T.getD k dT) (q := (eSurf.cells (T.getD k dT).1 (T.getD k dT).2.1).length) hel hr' (by omega) (eSurf.klen _ _)
    refine s_leave1 rfl rfl (fun w hw => ?_)
    have hw2 : SSt _ _ [[(bo, srow _ 26)], [(b0, srow _ 62)], tpiece T ++ G] w := hw.picks (by (repeat' first | exact Picks.nil | exact gp_hd | apply gp_tl | apply Picks.cons); done) (by rfl)
    rw [hu2.1, show T.length - 1 + 1 = T.length by omega] at hw2
    exact ⟨_, _, [], rfl, ⟨rfl, ⟨_, _, rfl, hat.raise hu2.2⟩, rfl⟩, SSt_last hw2 (perm_raise hkin G)⟩
end Go.Proofs.Ytakijgpoaeggnaa
namespace Go.Proofs.Ytakijgpoaeggnaa
open Go Sx
attribute [local irreducible] Exit.then Exit.inBlock bodyPost tcells OInts OElems
set_option maxHeartbeats 4000000 in
theorem c_editedLower (s : DScene) (e : DEdit) (d : Value) (bo b0 cap k : Nat) (T : List (ETri DSurf)) (r : List Value) (G : SPiece) (W : World) (hat : EdAt s k T b0 cap r) (hk : e.Kind = 4) (hi : surfaceIndex s.ss e.Id = (k : Int)) (hd : RInts W d e.buf.data)
    (hH : Holds W (EdIn bo b0 cap s T r G)) (hn : (EdIn bo b0 cap s T r G).keys.Nodup) :
    SYieldsG Try.prog 105 #[.pointer (some ⟨bo, 0, none⟩), vEdit e d] (EdIn bo b0 cap s T r G) (fun u H' F => u = .bool true ∧ EdOut bo (edited s e) H' ∧ F = []) W := by
  have hes : edited s e = { s with ss := s.ss.getD k default :: s.ss.eraseIdx k } := by rw [edited_k ⟨by omega, by omega⟩, editK_lower hk, hi, Int.toNat_natCast]
  rw [hes]
  have hdf := hd.form
  obtain ⟨da, dc, rfl⟩ := hdf
  have hcap := hat.cap1
  have hkin := hat.kin
  have hlen := hat.len
  have hcm : cap ≤ 9223372036854775807 := Nat.le_trans hat.cap2 (by decide)
  have hb0 : b0 < W.heap.size := (Array.getElem?_eq_some_iff.1 (hH b0 (srow (tcells eSurf T ++ r) 62) (List.mem_append_right _ (List.mem_append_left _ (List.mem_singleton.2 rfl))))).1
  have hel : (T.eraseIdx k).length = T.length - 1 := List.length_eraseIdx_of_lt hkin
  have hcl : (tcells eSurf (T.eraseIdx k)).length = (T.length - 1) * 11 := by rw [tcells_length, hel]; rfl
  have hone := OInts.one (show OInts 3 _ _ _ from hat.own _ (getT_mem hkin))
  have hidx : ∀ w, RS eSurf w (.slice (some ⟨b0, 0, none⟩) T.length cap) s.ss → SYields Try.prog 40 #[vScene s (.slice (some ⟨b0, 0, none⟩) T.length cap), .int .i64 e.Id] (.int .i64 (k : Int)) w := fun w h => by rw [← hi]; exact c_isurfaceIndex s _ _ w h
  refine SYieldsG.mk (s_enterM Try.func105 rfl Try.ntmps105 rfl hH hn ?_)
  refine cc_perm (L' := [[(bo, srow [.int .i64 s.W, .int .i64 s.H, .int .i64 s.Back, .slice (some ⟨b0, 0, none⟩) T.length cap] 26)], [(b0, srow (tcells eSurf T ++ r) 62)], tpiece T ++ G]) (by simp) ?_
  repeat' (first | exact rfl | (apply kO; (first | exact ov_pure rfl | (apply kOBin; (first | exact aBin)) | (apply kOCall; (first | (apply kCallF; (first | exact (ov_call rfl (fun w hw => hidx w (OElems.rs hat.elems (holds_app (hfA hw) (hfA hw))))))) | (apply kCallB; (first | exact aBlt | exact aLenR)))) | (apply kOLoad; (first | exact (ov_ldRZ (fun w hw => trow hat.vec (hfA hw)) rfl rfl (by omega) rfl) | exact aLdF | exact aLdR)) | exact ov_fieldAddr rfl | (apply kOIdx; (first | exact (ov_indexAddr rfl rfl (by omega)) | exact aIdx)) | exact aRest | exact aNew | exact (ov_field1 (ft := 37) rfl rfl rfl rfl))) | (refine kN ?_; (first | (refine kCall ?_; (first | (refine kWFn 168 ?_; (refine s_callG _ (fun u H' F => u = .slice (some ⟨b0, 0, none⟩) (T.length - 1 + 1) cap ∧ (∃ r2, H' = [(b0, srow (eSurf.cells (T.getD k dT).1 (T.getD k dT).2.1 ++ tcells eSurf (T.eraseIdx k) ++ r2) 62)] ∧ (eSurf.cells (T.getD k dT).1 (T.getD k dT).2.1 ++ tcells eSurf (T.eraseIdx k) ++ r2).length = cap * 11) ∧ F = []) rfl gpA (fun w hw hh hn => c_insert0 b0 _ cap (T.length - 1) (tcells eSurf (T.eraseIdx k)) r' (eSurf.cells (T.getD k dT).1 (T.getD k dT).2.1) _ w hcl hr' (by omega) hat.cap2 (eSurf.klen _ _) (tcells_ones (fun t ht => hat.own t (List.mem_of_mem_eraseIdx ht))) (eSurf_ones hone) (by omega) (hw.holds gpA _ _ (List.mem_singleton.2 rfl)) hh hn) rfl (fun u H' F hst => ?_); obtain ⟨rfl, ⟨r2, rfl, hr2⟩, rfl⟩ := hst)) | (refine kWFn 167 ?_; (refine s_callG _ (fun u H' F => u = .slice (some ⟨b0, 0, none⟩) (T.length - 1) cap ∧ (∃ r', H' = [(b0, srow (tcells eSurf (T.eraseIdx k) ++ r') 62)] ∧ (tcells eSurf (T.eraseIdx k) ++ r').length = cap * 11) ∧ F = []) rfl gpA (fun w hw hh hn => c_deleteS b0 cap k T r w hkin hcap hlen hat.cap2 (tcells_ones hat.own) hh hn) rfl (fun u H' F hst => ?_); obtain ⟨rfl, ⟨r', rfl, hr'⟩, rfl⟩ := hst)) | apply s_step)) | (refine kStore ?_; (first | (refine s_storeS _ rfl rfl gpA rfl (eSurf_ones hone) (by rfl) ?_) | refine s_store1 _ rfl rfl gpA rfl (by rfl) ?_ | refine s_storeS _ rfl rfl gpA rfl rfl (by rfl) ?_ | refine s_storeS _ rfl rfl gpA rfl (ones_img oiA) (by rfl) ?_)) | refine s_boxS rfl rfl (fun b hb => ?_) | refine s_allocS rfl (fun b hb => ?_) | refine s_box1 rfl rfl rfl (fun b hb => ?_) | refine s_alloc1 rfl rfl (fun b hb => ?_) | refine s_buildSlice0 rfl (fun b hb => ?_) | refine s_buildSlice rfl rfl rfl rfl rfl (fun b hb => ?_) | apply s_step)) | (refine kG ?_; (first | refine s_gyes rfl rfl rfl ?_ | refine s_gno rfl rfl rfl rfl rfl ?_ | ((first | refine s_split_d rfl rfl (fun h => ?_) (fun h => ?_) | refine s_split_n rfl rfl (fun h => ?_) (fun h => ?_)) <;> (try (first | contradiction | (exfalso; omega)))) | refine s_split_nb rfl rfl (fun h => ?_) (fun h => ?_) | refine s_split rfl rfl (fun h => ?_) (fun h => ?_))) | (refine kS ?_; (first | refine h_exec rfl ?_ | refine h_take_nil rfl rfl rfl ?_ | refine h_take_pick rfl rfl rfl ?_ | refine h_nil ?_ | refine h_alt ?_ ?_ | apply h_take)) | (refine kBack ?_; (first | refine h_back_last rfl ?_ | refine h_backN rfl subA ?_)) | refine l_then ?_ | (refine kC ?_; (first | (refine kReg 23 ?_; refine c_regionSubN (SPlan.take 0 (SPlan.take 1 (SPlan.take 2 (SPlan.take 3 (SPlan.take 5 (SPlan.take 6 (SPlan.take 7 (SPlan.take 9 ((SPlan.run 4 ((SPlan.run 8 (SPlan.run 10 (SPlan.run 11 (SPlan.take 12 (SPlan.take 13 (SPlan.run 14 SPlan.done)))))).alt (SPlan.run 10 (SPlan.run 8 (SPlan.run 11 (SPlan.take 12 (SPlan.take 13 (SPlan.run 14 SPlan.done)))))))).alt (SPlan.run 10 (SPlan.run 4 (SPlan.run 8 (SPlan.run 11 (SPlan.take 12 (SPlan.take 13 (SPlan.run 14 SPlan.done)))))))))))))))) none [true, true, false, false, true] rfl rfl rfl (by decide +kernel) ?_) | refine c_seq ?_ | refine c_regionN rfl ?_ | refine c_ret ?_ | (refine kCond ?_; (first | refine c_cond_t rfl ?_ | refine c_cond_f rfl ?_ | ((first | refine c_cond_d rfl (fun h => ?_) (fun h => ?_) | refine c_cond_n rfl (fun h => ?_) (fun h => ?_)) <;> (try (first | contradiction | (exfalso; omega)))) | refine c_cond_nb rfl (fun h => ?_) (fun h => ?_) | refine c_cond rfl (fun h => ?_) (fun h => ?_))) | refine c_block ?_ | refine c_skip ?_ | refine c_exit ?_ | refine c_regionQN rfl rfl (by decide +kernel) ?_)) | apply s_stepQ | (refine kQG ?_; (first | refine s_gyesQ rfl rfl rfl ?_ | refine s_gnoQ rfl rfl rfl rfl rfl ?_ | ((first | refine s_splitQ_d rfl rfl (fun h => ?_) (fun h => ?_) | refine s_splitQ_n rfl rfl (fun h => ?_) (fun h => ?_)) <;> (try (first | contradiction | (exfalso; omega)))) | refine s_splitQ_nb rfl rfl (fun h => ?_) (fun h => ?_) | refine s_splitQ rfl rfl (fun h => ?_) (fun h => ?_))) | refine lQ_then ?_ | refine lQ_ends ?_ | (refine kE ?_; (first | refine e_then_r ?_ | refine e_block_r ?_ | refine e_then_n ?_ | refine e_then_x ?_ | refine e_block_n ?_ | refine e_block_x ?_ | refine e_block_y rfl ?_)) | refine l_ends ?_)
  all_goals
    refine s_leave1 rfl rfl (fun w hw => ?_)
    have hw2 : SSt _ _ [[(bo, srow _ 26)], [(b0, srow _ 62)], tpiece T ++ G] w := hw.picks (by (repeat' first | exact Picks.nil | exact gp_hd | apply gp_tl | apply Picks.cons); done) (by rfl)
    rw [← tcells_cons] at hw2 hr2
    rw [show T.length - 1 + 1 = T.length by omega] at hw2
    exact ⟨_, _, [], rfl, ⟨rfl, ⟨_, _, rfl, hat.lower hr2⟩, rfl⟩, SSt_last hw2 (perm_lower hkin G)⟩
end Go.Proofs.Ytakijgpoaeggnaa
namespace Go.Proofs.Ytakijgpoaeggnaa
open Go Sx
attribute [local irreducible] Exit.then Exit.inBlock bodyPost tcells OInts OElems
theorem c_edited (s : DScene) (e : DEdit) (v d : Value) (bo : Nat) (H : SPiece) (W : World) (hlen : s.ss.length ≤ 6) (hv : OElems eSurf 62 v s.ss H) (hd : RInts W d e.buf.data) (hap : 0 < e.buf.data.length → Apart (EdPre bo s v H).keys d) (hl : e.buf.data.length ≤ 1000000000) (hH : Holds W (EdPre bo s v H)) (hn : (EdPre bo s v H).keys.Nodup) :
    SYieldsG Try.prog 105 #[.pointer (some ⟨bo, 0, none⟩), vEdit e d] (EdPre bo s v H) (fun u H' F => u = .bool (decide (editable s e)) ∧ EdOut bo (if editable s e then edited s e else s) H' ∧ F = []) W := by
  by_cases hk : editable s e
  · rw [if_pos hk, decide_eq_true hk]
    by_cases h0 : e.Kind = 0
    · exact c_editedAdd s e v d bo H W h0 hlen hv hd hap hl hH hn
    · by_cases h10 : e.Kind = 10
      · exact c_editedBack s e v d bo H W h10 hv hd hH hn
      · have hr : (1 ≤ e.Kind ∧ e.Kind ≤ 9) ∧ 0 ≤ surfaceIndex s.ss e.Id := by unfold editable at hk; exact (hk.resolve_left h0).resolve_left h10
        have hil := index_lt s.ss e.Id
        obtain ⟨k, hi⟩ := Int.eq_ofNat_of_zero_le hr.2
        obtain ⟨T, H0, G, hT, h1, h2, rfl⟩ := OElems.tri hv
        have hTl : T.length = s.ss.length := by rw [← hT, List.length_map]
        rcases ovec_split h1 with ⟨_, h3, _, _⟩ | ⟨b0, cap, r, rfl, rfl, _, h4, h5, h6⟩
        · omega
        · have hat : EdAt s k T b0 cap r := ⟨hT, by omega, h2, h4, h5, h6⟩
          by_cases k1 : e.Kind = 1
          · exact c_editedDel s e d bo b0 cap k T r G W hat k1 hi hd hH hn
          · by_cases k3 : e.Kind = 3
            · exact c_editedRaise s e d bo b0 cap k T r G W hat k3 hi hd hH hn
            · by_cases k4 : e.Kind = 4
              · exact c_editedLower s e d bo b0 cap k T r G W hat k4 hi hd hH hn
              · by_cases k5 : e.Kind = 5
                · exact c_editedBuf s e d bo b0 cap k T r G W hat k5 hi hd hap hl hH hn
                · exact c_editedTurn s e d bo b0 cap k T r G W hat (by omega) hi hd hH hn
  · rw [if_neg hk, decide_eq_false hk]
    exact c_editedNo s e v d bo H W hk hv hd hH hn
end Go.Proofs.Ytakijgpoaeggnaa
