/-
  Texts that the law stands on, part 2: M8, M9, M13, M14, KZ, KS, L7, KU, KT, E1, CA, EA, M10, M15, M11, M12, M16, M18, H1.
-/
import Derived.Test.YtakijgpoaeggnaaChainOkB1
/-
  The plain functions, continued: what is covered, what can be seen; painting only that. No program in sight.
-/
set_option linter.unusedVariables false
namespace Sx
/-- the screen of a scene -/
def scrR (s : DScene) : DRect := ⟨0, 0, s.W, s.H⟩
def scrG (s : DScene) : Grid := rectG (scrR s)
/-- does this surface cover the point -/
def hides (q : DSurf) (y x : Nat) : Bool := decide (isOpaqueS q) && (surfRect q).holds y x
/-- covered by opaque surfaces from number n on -/
def coverG (s : DScene) (n : Nat) : Grid := Grid.and (fun y x => (s.ss.drop n).any (fun q => hides q y x)) (scrG s)
/-- where surface number k can be seen -/
def seenG (s : DScene) (k : Nat) : Grid := ((rectG (surfRect (s.ss.getD k default))).and (scrG s)).without (coverG s (k + 1))
/-- no opaque surface from number k on covers the point -/
def bare (s : DScene) (k y x : Nat) : Prop := ∀ i, k ≤ i → i < s.ss.length → hides (s.ss.getD i default) y x = false
/-- only what can be seen is painted: after n surfaces -/
def pvTo (s : DScene) : Nat → Nat → Nat → Int
  | 0, _, _ => s.Back
  | n + 1, x, y => if seenG s n y x = true then over (pixOf (s.ss.getD n default) x y) (pvTo s n x y) else pvTo s n x y
theorem getD_ok {s : DScene} (h : s.ok) {k : Nat} (hk : k < s.ss.length) : (s.ss.getD k default).ok := (h.2.2.2.2 k hk).1
/-! surfaces that cannot be seen can be left out -/
/-- the first k surfaces but those that keep leaves out -/
def keptTo (s : DScene) (keep : Nat → Bool) : Nat → List DSurf
  | 0 => []
  | k + 1 => keptTo s keep k ++ (if keep k = true then [s.ss.getD k default] else [])
end Sx
/-
  The plain functions, continued: damage as regions; painting into an image; chains of buffers. No program in sight.
-/
set_option linter.unusedVariables false
namespace Sx
/-! ### chapter 13 -/
/-- the points of the damage -/
def damG (a b : DScene) : Grid := fun y x =>
  a.ss.any (fun s => !decide (s ∈ b.ss) && (surfRect s).holds y x) || b.ss.any (fun s => !decide (s ∈ a.ss) && (surfRect s).holds y x) ||
  (List.range b.ss.length).any (fun i => (List.range i).any (fun k => decide (0 ≤ surfaceIndex a.ss (b.ss.getD i default).Id ∧ surfaceIndex a.ss (b.ss.getD i default).Id < surfaceIndex a.ss (b.ss.getD k default).Id) && ((surfRect (b.ss.getD i default)).holds y x && (surfRect (b.ss.getD k default)).holds y x)))
def sameSize (a b : DScene) : Prop := a.W = b.W ∧ a.H = b.H
instance (a b : DScene) : Decidable (sameSize a b) := by unfold sameSize; infer_instance
def damageOf (a b : DScene) : List DRect :=
  if a.ok ∧ b.ok then (if sameSize a b ∧ a.Back = b.Back then canon ((damG a b).and (scrG b)) else canon (scrG b)) else []
/-! ### copying the pixels of a region -/
def copyF (to fr : DImg) (g : Grid) (x y : Int) : Int := if g y.toNat x.toNat = true ∧ x < fr.W ∧ y < fr.H then fr.at x y else to.at x y
def copyRegion (to fr : DImg) (r : List DRect) : DImg := if to.ok ∧ fr.ok ∧ regionOk r then fimg (copyF to fr (points r)) to.W to.H else to
def paintInto (i : DImg) (s : DScene) (r : List DRect) : DImg := if s.ok then copyRegion i (painted s) r else i
end Sx
/-
  The plain functions, continued: the points of rectangles, one by one. No program in sight.
-/
set_option linter.unusedVariables false
namespace Sx
/-- a rectangle is marked up to row j, and in that row up to place i -/
def boxG (r : DRect) (old : Grid) (j i : Nat) : Grid := fun b a => old b a || decide ((r.X ≤ (a : Int) ∧ (a : Int) < r.X + r.W ∧ r.Y ≤ (b : Int)) ∧ ((b : Int) < r.Y + j ∨ ((b : Int) = r.Y + j ∧ (a : Int) < r.X + i)))
def putG (g : Grid) (y x : Nat) : Grid := fun b a => if b = y ∧ a = x then true else g b a
theorem boxG_zero (r : DRect) (old : Grid) : (boxG r old 0 0).eqv old := fun b a _ _ => by
  unfold boxG; rw [decide_eq_false (by omega), Bool.or_false]
theorem boxG_next {r : DRect} {old : Grid} {j i : Nat} (h0 : 0 ≤ r.X ∧ 0 ≤ r.Y) (hi : (i : Int) < r.W) : (putG (boxG r old j i) (r.Y + j).toNat (r.X + i).toNat).eqv (boxG r old j (i + 1)) := fun b a _ _ => by
  unfold putG boxG
  by_cases e : b = (r.Y + j).toNat ∧ a = (r.X + i).toNat
  · rw [if_pos e, decide_eq_true (by push_cast; omega), Bool.or_true]
  · rw [if_neg e]
    congr 1
    exact decide_eq_decide.2 ⟨fun h => ⟨h.1, by push_cast; omega⟩, fun h => ⟨h.1, by have h2 := h.2; push_cast at h2; omega⟩⟩
theorem boxG_row {r : DRect} {old : Grid} {j i : Nat} (hi : r.W ≤ (i : Int)) : (boxG r old j i).eqv (boxG r old (j + 1) 0) := fun b a _ _ => by
  unfold boxG
  congr 1
  exact decide_eq_decide.2 ⟨fun h => ⟨h.1, by push_cast; omega⟩, fun h => ⟨h.1, by have h2 := h.2; push_cast at h2; omega⟩⟩
theorem boxG_all {r : DRect} (h : r.ok) {old : Grid} {j : Nat} (hj : r.H = (j : Int)) : (boxG r old j 0).eqv (old.or (rectG r)) := fun b a _ _ => by
  unfold boxG Grid.or rectG DRect.holds
  congr 1
  exact decide_eq_decide.2 ⟨fun hh => ⟨h, by omega⟩, fun hh => by have h2 := hh.2; omega⟩
theorem points_take {l : List DRect} {k : Nat} (h : k < l.length) : points (l.take (k + 1)) = (points (l.take k)).or (rectG (l.getD k DRect.zero)) := by
  rw [List.take_add_one, List.getElem?_eq_getElem h, Option.toList_some, points_congr_append, points_one]
  congr 2
  rw [List.getD_eq_getElem?_getD, List.getElem?_eq_getElem h]; rfl
theorem points_take_screen {l : List DRect} {k : Nat} (h : k < l.length) : ((points (l.take k)).or (rectG ((l.getD k DRect.zero).inter DRect.screen))).eqv (points (l.take (k + 1))) := by
  rw [points_take h]
  exact Grid.or_congr (Grid.eqv.refl _) inter_screen
end Sx
/-
  The plain functions, continued: regions joined place by place, areas, marks. No program in sight.
-/
set_option linter.unusedVariables false
namespace Sx
/-- the first j places are joined -/
def placeG (op : Bool → Bool → Bool) (g h : Grid) (j : Nat) : Grid := fun y x => if y * 16 + x < j then op (g y x) (h y x) else g y x
/-- or, and, without -/
def joinOp (kind : Int) (p q : Bool) : Bool := if kind = 0 then p || q else if kind = 1 then p && q else p && !q
def joinOf (kind : Int) (a c : List DRect) : List DRect := if regionOk a ∧ regionOk c then canon (fun y x => joinOp kind (points a y x) (points c y x)) else []
def withoutOf (a c : List DRect) : List DRect := if regionOk a ∧ regionOk c then canon ((points a).without (points c)) else []
def unionOf (a c : List DRect) : List DRect := if regionOk a ∧ regionOk c then canon ((points a).or (points c)) else []
def areaOf (l : List DRect) : Int := if regionOk l then area l else 0
/-- rectangles of ascending numbers -/
def iotaR (k : Int) (n : Nat) : List DRect := (List.range n).map (fun i : Nat => ⟨k + 4 * i, k + 4 * i + 1, k + 4 * i + 2, k + 4 * i + 3⟩)
theorem iotaR_length (k : Int) (n : Nat) : (iotaR k n).length = n := by simp [iotaR]
theorem iotaR_get (k : Int) {n i : Nat} (h : i < n) : (iotaR k n).getD i DRect.zero = ⟨k + 4 * i, k + 4 * i + 1, k + 4 * i + 2, k + 4 * i + 3⟩ := by
  simp [iotaR, List.getD_eq_getElem?_getD, h]
theorem iotaR_succ (k : Int) (n : Nat) : iotaR k (n + 1) = iotaR k n ++ [⟨k + 4 * n, k + 4 * n + 1, k + 4 * n + 2, k + 4 * n + 3⟩] := by
  simp [iotaR, List.range_succ]
/-- points of a list's first rectangles that are valid -/
theorem points_take_ok {l : List DRect} {k : Nat} (h : k < l.length) (hk : ¬ (l.getD k DRect.zero).ok) : points (l.take (k + 1)) = points (l.take k) := by
  rw [points_take h]
  funext y x
  unfold Grid.or rectG DRect.holds
  rw [decide_eq_false (fun hh => hk hh.1), Bool.or_false]
/-! covered: the first m surfaces of a list -/
def hideG (l : List DSurf) (m : Nat) : Grid := fun y x => (l.take m).any (fun q => hides q y x)
def coverOf (s : DScene) (k : Int) : List DRect := if s.ok ∧ (-1 ≤ k ∧ k ≤ (s.ss.length : Int) - 1) then canon (coverG s (k + 1).toNat) else []
def visibleOf (s : DScene) (k : Int) : List DRect := if s.ok ∧ (0 ≤ k ∧ k ≤ (s.ss.length : Int) - 1) then canon (seenG s k.toNat) else []
/-! the reference's list of what covers -/
def coverL (s : DScene) (k : Nat) : Nat → List DRect
  | 0 => []
  | m + 1 => coverL s k m ++ (if isOpaqueS (s.ss.getD (k + m) default) then [(surfRect (s.ss.getD (k + m) default)).inter (scrR s)] else [])
end Sx
/-
  Contracts: the laws' own helpers on regions.
-/
set_option linter.unusedVariables false
namespace Go.Proofs.Ytakijgpoaeggnaa
open Go Sx
attribute [local irreducible] Exit.then Exit.inBlock bodyPost
theorem c_eqRectS (u v : Value) (k l : List DRect) (W : World) (hu : RRects W u k) (hv : RRects W v l) : SYields Try.prog 215 #[u, v] (.bool (decide (k = l))) W := by
  have hkl := hu.len
  have hll := hv.len
  (first | apply SYields.mk | apply SYieldsF.mk | skip); refine s_enter Try.func215 rfl Try.ntmps215 rfl ?_
  repeat' (first | exact rfl | (apply kO; (first | exact ov_pure rfl | (apply kOBin; (first | exact aBin)) | (apply kOCall; (first | (apply kCallF; (first | exact (ov_call rfl (fun w hw => c_eqRect _ _ w)))) | (apply kCallB; (first | exact aBlt | exact (ov_lenR (fun w hw => RRow.keep hu (hw.cells rfl)) rfl) | exact (ov_lenR (fun w hw => RRow.keep hv (hw.cells rfl)) rfl) | exact aLenR)))) | (apply kOLoad; (first | exact (ov_ldRZ (fun w hw => RRow.keep hu (hw.cells rfl)) rfl rfl (by omega) rfl) | exact (ov_ldRZ (fun w hw => RRow.keep hv (hw.cells rfl)) rfl rfl (by omega) rfl) | exact aLdF | exact aLdR)) | exact ov_fieldAddr rfl | (apply kOIdx; (first | exact (ov_idxR (fun w hw => RRow.keep hu (hw.cells rfl)) rfl rfl (by omega)) | exact (ov_idxR (fun w hw => RRow.keep hv (hw.cells rfl)) rfl rfl (by omega)) | exact aIdx)) | exact aRest | exact aNew | exact (ov_field1 (ft := 37) rfl rfl rfl rfl))) | (refine kN ?_; (first | (refine kStore ?_; (first | refine s_store1 _ rfl rfl gpA rfl (by rfl) ?_ | refine s_storeS _ rfl rfl gpA rfl rfl (by rfl) ?_ | refine s_storeS _ rfl rfl gpA rfl (ones_img oiA) (by rfl) ?_)) | refine s_boxS rfl rfl (fun b hb => ?_) | refine s_allocS rfl (fun b hb => ?_) | refine s_box1 rfl rfl rfl (fun b hb => ?_) | refine s_alloc1 rfl rfl (fun b hb => ?_) | refine s_buildSlice0 rfl (fun b hb => ?_) | refine s_buildSlice rfl rfl rfl rfl rfl (fun b hb => ?_) | apply s_step)) | (refine kG ?_; (first | refine s_gyes rfl rfl rfl ?_ | refine s_gno rfl rfl rfl rfl rfl ?_ | ((first | refine s_split_d rfl rfl (fun h => ?_) (fun h => ?_) | refine s_split_n rfl rfl (fun h => ?_) (fun h => ?_)) <;> (try (first | contradiction | (exfalso; omega)))) | refine s_split_nb rfl rfl (fun h => ?_) (fun h => ?_) | refine s_split rfl rfl (fun h => ?_) (fun h => ?_))) | refine l_then ?_ | (refine kC ?_; (first | (refine c_loopV (ι := Nat) (fun j => j ≤ k.length ∧ eqTo k l DRect.zero j) (fun j => [(5, .int .i64 (j : Int))]) (fun _ => []) (fun j => k.length - j) 0 ⟨by omega, eqTo_zero _ _ _⟩ rfl (fun _ => rfl) ⟨rfl, trivial⟩ (fun w hw => hw) (fun j hj => ?_)) | refine c_seq ?_ | refine c_regionN rfl ?_ | refine c_ret ?_ | (refine kCond ?_; (first | refine c_cond_t rfl ?_ | refine c_cond_f rfl ?_ | ((first | refine c_cond_d rfl (fun h => ?_) (fun h => ?_) | refine c_cond_n rfl (fun h => ?_) (fun h => ?_)) <;> (try (first | contradiction | (exfalso; omega)))) | refine c_cond_nb rfl (fun h => ?_) (fun h => ?_) | refine c_cond rfl (fun h => ?_) (fun h => ?_))) | refine c_block ?_ | refine c_skip ?_ | refine c_exit ?_ | refine c_regionQN rfl rfl (by decide +kernel) ?_)) | apply s_stepQ | (refine kQG ?_; (first | refine s_gyesQ rfl rfl rfl ?_ | refine s_gnoQ rfl rfl rfl rfl rfl ?_ | ((first | refine s_splitQ_d rfl rfl (fun h => ?_) (fun h => ?_) | refine s_splitQ_n rfl rfl (fun h => ?_) (fun h => ?_)) <;> (try (first | contradiction | (exfalso; omega)))) | refine s_splitQ_nb rfl rfl (fun h => ?_) (fun h => ?_) | refine s_splitQ rfl rfl (fun h => ?_) (fun h => ?_))) | refine lQ_then ?_ | refine lQ_ends ?_ | (refine kE ?_; (first | refine e_then_r ?_ | refine e_block_r ?_ | refine e_then_n ?_ | refine e_then_x ?_ | refine e_block_n ?_ | refine e_block_x ?_ | refine e_block_y rfl ?_)) | refine l_ends ?_)
  all_goals try simp only [Int.toNat_natCast] at *
  all_goals first
    | exact s_leave1 rfl rfl (fun w hw => ⟨ret_false (ne_of_len (by omega)), hw.below⟩)
    | exact s_leave1 rfl rfl (fun w hw => ⟨ret_false (fun e => by subst e; contradiction), hw.below⟩)
    | exact e_round (j + 1) ⟨by omega, eqTo_next hj.2 (by assumption)⟩ ⟨rfl, (by repeat' first | exact trivial | refine ⟨rfl, ?_⟩)⟩ (fun w hw => hw) (by omega)
    | exact s_leave1 rfl rfl (fun w hw => ⟨ret_true (list_eq_of_getD DRect.zero (by omega) (fun i hi => hj.2 i (by omega))), hw.below⟩)
theorem c_eqRegion (u v : Value) (k l : List DRect) (W : World) (hu : RRects W u k) (hv : RRects W v l) : SYields Try.prog 178 #[vReg u, vReg v] (.bool (decide (k = l))) W := by
  (first | apply SYields.mk | apply SYieldsF.mk | skip); refine s_enter Try.func178 rfl Try.ntmps178 rfl ?_
  repeat' (first | exact rfl | (apply kO; (first | exact ov_pure rfl | (apply kOBin; (first | exact aBin)) | (apply kOCall; (first | (apply kCallF; (first | exact (ov_call rfl (fun w hw => c_eqRectS _ _ _ _ w (RVs.keep hu (hw.cells rfl)) (RVs.keep hv (hw.cells rfl)))))) | (apply kCallB; (first | exact aBlt | exact aLenR)))) | (apply kOLoad; (first | exact aLdF | exact aLdR)) | exact ov_fieldAddr rfl | (apply kOIdx; (first | exact aIdx)) | exact aRest | exact aNew | exact (ov_field1 (ft := 37) rfl rfl rfl rfl))) | (refine kN ?_; (first | (refine kStore ?_; (first | refine s_store1 _ rfl rfl gpA rfl (by rfl) ?_ | refine s_storeS _ rfl rfl gpA rfl rfl (by rfl) ?_ | refine s_storeS _ rfl rfl gpA rfl (ones_img oiA) (by rfl) ?_)) | refine s_boxS rfl rfl (fun b hb => ?_) | refine s_allocS rfl (fun b hb => ?_) | refine s_box1 rfl rfl rfl (fun b hb => ?_) | refine s_alloc1 rfl rfl (fun b hb => ?_) | refine s_buildSlice0 rfl (fun b hb => ?_) | refine s_buildSlice rfl rfl rfl rfl rfl (fun b hb => ?_) | apply s_step)) | (refine kG ?_; (first | refine s_gyes rfl rfl rfl ?_ | refine s_gno rfl rfl rfl rfl rfl ?_ | ((first | refine s_split_d rfl rfl (fun h => ?_) (fun h => ?_) | refine s_split_n rfl rfl (fun h => ?_) (fun h => ?_)) <;> (try (first | contradiction | (exfalso; omega)))) | refine s_split_nb rfl rfl (fun h => ?_) (fun h => ?_) | refine s_split rfl rfl (fun h => ?_) (fun h => ?_))) | refine l_then ?_ | (refine kC ?_; (first | refine c_seq ?_ | refine c_regionN rfl ?_ | refine c_ret ?_ | (refine kCond ?_; (first | refine c_cond_t rfl ?_ | refine c_cond_f rfl ?_ | ((first | refine c_cond_d rfl (fun h => ?_) (fun h => ?_) | refine c_cond_n rfl (fun h => ?_) (fun h => ?_)) <;> (try (first | contradiction | (exfalso; omega)))) | refine c_cond_nb rfl (fun h => ?_) (fun h => ?_) | refine c_cond rfl (fun h => ?_) (fun h => ?_))) | refine c_block ?_ | refine c_skip ?_ | refine c_exit ?_ | refine c_regionQN rfl rfl (by decide +kernel) ?_)) | apply s_stepQ | (refine kQG ?_; (first | refine s_gyesQ rfl rfl rfl ?_ | refine s_gnoQ rfl rfl rfl rfl rfl ?_ | ((first | refine s_splitQ_d rfl rfl (fun h => ?_) (fun h => ?_) | refine s_splitQ_n rfl rfl (fun h => ?_) (fun h => ?_)) <;> (try (first | contradiction | (exfalso; omega)))) | refine s_splitQ_nb rfl rfl (fun h => ?_) (fun h => ?_) | refine s_splitQ rfl rfl (fun h => ?_) (fun h => ?_))) | refine lQ_then ?_ | refine lQ_ends ?_ | (refine kE ?_; (first | refine e_then_r ?_ | refine e_block_r ?_ | refine e_then_n ?_ | refine e_then_x ?_ | refine e_block_n ?_ | refine e_block_x ?_ | refine e_block_y rfl ?_)) | refine l_ends ?_)
  all_goals refine s_leave1 rfl rfl (fun w hw => ⟨?_, hw.below⟩)
  all_goals first | exact ret_false (fun e => by subst e; contradiction) | exact ret_true (by assumption)
theorem c_heldRectS (v : Value) (k : Int) (m : Nat) (W : World) (hv : RRects W v (iotaR k m)) (hk : 0 ≤ k ∧ k + 4 * m ≤ 4611686018427387904) : SYields Try.prog 184 #[v, .int .i64 k] (.int .i64 (k + 4 * m)) W := by
  have hl := hv.len
  rw [iotaR_length] at hl
  have hv' : RRow W v 4 m (fun i => [.int .i64 (k + 4 * (i : Int)), .int .i64 (k + 4 * (i : Int) + 1), .int .i64 (k + 4 * (i : Int) + 2), .int .i64 (k + 4 * (i : Int) + 3)]) := RRow.congr hv (iotaR_length k m).symm (fun i hi => by rw [iotaR_get k (by rw [iotaR_length] at hi; exact hi)])
  (first | apply SYields.mk | apply SYieldsF.mk | skip); refine s_enter Try.func184 rfl Try.ntmps184 rfl ?_
  repeat' (first | exact rfl | (apply kO; (first | exact ov_pure rfl | (apply kOBin; (first | exact aBin | exact (ov_add rfl rfl (by omega)))) | (apply kOCall; (first | (apply kCallB; (first | exact aBlt | exact (ov_lenR (fun w hw => RRow.keep hv' (hw.cells rfl)) rfl) | exact aLenR)))) | (apply kOLoad; (first | exact (ov_ldR (fun w hw => RRow.keep hv' (hw.cells rfl)) rfl rfl (by omega) rfl) | exact aLdF | exact aLdR)) | exact ov_fieldAddr rfl | (apply kOIdx; (first | exact (ov_idxR (fun w hw => RRow.keep hv' (hw.cells rfl)) rfl rfl (by omega)) | exact aIdx)) | exact aRest | exact aNew | exact (ov_field1 (ft := 37) rfl rfl rfl rfl))) | (refine kN ?_; (first | (refine kStore ?_; (first | refine s_store1 _ rfl rfl gpA rfl (by rfl) ?_ | refine s_storeS _ rfl rfl gpA rfl rfl (by rfl) ?_ | refine s_storeS _ rfl rfl gpA rfl (ones_img oiA) (by rfl) ?_)) | refine s_boxS rfl rfl (fun b hb => ?_) | refine s_allocS rfl (fun b hb => ?_) | refine s_box1 rfl rfl rfl (fun b hb => ?_) | refine s_alloc1 rfl rfl (fun b hb => ?_) | refine s_buildSlice0 rfl (fun b hb => ?_) | refine s_buildSlice rfl rfl rfl rfl rfl (fun b hb => ?_) | apply s_step)) | (refine kG ?_; (first | refine s_gyes rfl rfl rfl ?_ | refine s_gno rfl rfl rfl rfl rfl ?_ | ((first | refine s_split_d rfl rfl (fun h => ?_) (fun h => ?_) | refine s_split_n rfl rfl (fun h => ?_) (fun h => ?_)) <;> (try (first | contradiction | (exfalso; omega) | (exfalso; (exfalso; omega))))) | refine s_split_nb rfl rfl (fun h => ?_) (fun h => ?_) | refine s_split rfl rfl (fun h => ?_) (fun h => ?_))) | refine l_then ?_ | (refine kC ?_; (first | (refine c_loopV (ι := Nat) (fun j => j ≤ m) (fun j => [(1, .int .i64 (k + 4 * j)), (5, .int .i64 (j : Int))]) (fun _ => []) (fun j => m - j) 0 (by omega) rfl (fun _ => rfl) ⟨slook_to rfl (vint_to (by simp)), rfl, trivial⟩ (fun w hw => hw) (fun j hj => ?_)) | refine c_seq ?_ | refine c_regionN rfl ?_ | refine c_ret ?_ | (refine kCond ?_; (first | refine c_cond_t rfl ?_ | refine c_cond_f rfl ?_ | ((first | refine c_cond_d rfl (fun h => ?_) (fun h => ?_) | refine c_cond_n rfl (fun h => ?_) (fun h => ?_)) <;> (try (first | contradiction | (exfalso; omega) | (exfalso; (exfalso; omega))))) | refine c_cond_nb rfl (fun h => ?_) (fun h => ?_) | refine c_cond rfl (fun h => ?_) (fun h => ?_))) | refine c_block ?_ | refine c_skip ?_ | refine c_exit ?_ | refine c_regionQN rfl rfl (by decide +kernel) ?_)) | apply s_stepQ | (refine kQG ?_; (first | refine s_gyesQ rfl rfl rfl ?_ | refine s_gnoQ rfl rfl rfl rfl rfl ?_ | ((first | refine s_splitQ_d rfl rfl (fun h => ?_) (fun h => ?_) | refine s_splitQ_n rfl rfl (fun h => ?_) (fun h => ?_)) <;> (try (first | contradiction | (exfalso; omega) | (exfalso; (exfalso; omega))))) | refine s_splitQ_nb rfl rfl (fun h => ?_) (fun h => ?_) | refine s_splitQ rfl rfl (fun h => ?_) (fun h => ?_))) | refine lQ_then ?_ | refine lQ_ends ?_ | (refine kE ?_; (first | refine e_then_r ?_ | refine e_block_r ?_ | refine e_then_n ?_ | refine e_then_x ?_ | refine e_block_n ?_ | refine e_block_x ?_ | refine e_block_y rfl ?_)) | refine l_ends ?_)
  all_goals first
    | exact e_round (j + 1) (by omega) ⟨slook_to rfl (vint_to (by push_cast; omega)), slook_to rfl (vint_to (by push_cast; rfl)), (by repeat' first | exact trivial | refine ⟨rfl, ?_⟩)⟩ (fun w hw => hw) (by omega)
    | exact s_leave1 rfl rfl (fun w hw => ⟨ret_int (by rw [show j = m by omega]), hw.below⟩)
theorem set4 {P R : List Value} {a c e f a' c' e' f' : Value} {p : Nat} (hp : p = P.length) : ((((P ++ (a :: c :: e :: f :: R)).set p a').set (p + 1) c').set (p + 2) e').set (p + 3) f' = P ++ (a' :: c' :: e' :: f' :: R) := by
  subst hp
  rw [List.set_append_right _ _ (Nat.le_refl _), List.set_append_right _ _ (by omega), List.set_append_right _ _ (by omega), List.set_append_right _ _ (by omega)]
  rw [Nat.sub_self, show P.length + 1 - P.length = 1 by omega, show P.length + 2 - P.length = 2 by omega, show P.length + 3 - P.length = 3 by omega]
  rfl
/-- the cells of rectangles of which the first j are marked -/
def markRTo (l : List DRect) (k : Int) (j : Nat) : List DRect := iotaR k j ++ l.drop j
theorem markRTo_zero (l : List DRect) (k : Int) : markRTo l k 0 = l := by simp [markRTo, iotaR]
theorem markRTo_all (l : List DRect) (k : Int) : markRTo l k l.length = iotaR k l.length := by simp [markRTo]
theorem markRTo_length (l : List DRect) (k : Int) {j : Nat} (h : j ≤ l.length) : (markRTo l k j).length = l.length := by simp [markRTo, iotaR_length]; omega
theorem rcells_length (l : List DRect) : (l.flatMap cRect).length = l.length * 4 := flatMap_length (c := cRect) (k := 4) (fun _ => rfl) l
theorem markRTo_set (l : List DRect) (k : Int) (r : List Value) {j : Nat} (h : j < l.length) :
    ((((((markRTo l k j).flatMap cRect ++ r).set (j * 4) (.int .i64 (k + 4 * j))).set (j * 4 + 1) (.int .i64 (k + 4 * j + 1))).set (j * 4 + 2) (.int .i64 (k + 4 * j + 1 + 1))).set (j * 4 + 3) (.int .i64 (k + 4 * j + 1 + 1 + 1))) = (markRTo l k (j + 1)).flatMap cRect ++ r := by
  rw [show k + 4 * (j : Int) + 1 + 1 + 1 = k + 4 * j + 3 by omega, show k + 4 * (j : Int) + 1 + 1 = k + 4 * j + 2 by omega]
  unfold markRTo
  rw [List.drop_eq_getElem_cons h, iotaR_succ, List.flatMap_append, List.flatMap_append, List.flatMap_append, List.flatMap_cons, List.append_assoc, List.append_assoc]
  show (((((iotaR k j).flatMap cRect ++ (_ :: _ :: _ :: _ :: _)).set _ _).set _ _).set _ _).set _ _ = _
  rw [set4 (by rw [rcells_length, iotaR_length])]
  simp
set_option maxHeartbeats 2000000 in
theorem c_markRectS (v : Value) (l : List DRect) (H : SPiece) (k : Int) (w : World) (hv : ORects v l H) (hH : Holds w H) (hn : H.keys.Nodup) (hk : 0 ≤ k ∧ k + 4 * l.length ≤ 4611686018427387904) :
    SYieldsG Try.prog 183 #[v, .int .i64 k] H (fun u H' F => u = .int .i64 (k + 4 * l.length) ∧ ORects v (iotaR k l.length) H' ∧ F = []) w := by
  have hlen := hv.len
  unfold maxLen at hlen
  have hil := iotaR_length k l.length
  have hrl := rcells_length
  have hml := fun j (h : j ≤ l.length) => markRTo_length l k h
  unfold ORects OVs at hv
  generalize hx : l.flatMap cRect = xs at hv
  generalize hnn : l.length = nn at hv
  cases hv with
  | nil =>
    have hl0 : l = [] := List.eq_nil_of_length_eq_zero hnn
    subst hl0
    refine SYieldsG.mk (s_enterM Try.func183 rfl Try.ntmps183 rfl hH hn ?_)
    repeat' (first | exact rfl | (apply kO; (first | exact ov_pure rfl | (apply kOBin; (first | exact aBin)) | (apply kOCall; (first | (apply kCallB; (first | exact aBlt | exact aLenR)))) | (apply kOLoad; (first | exact aLdF | exact aLdR)) | exact ov_fieldAddr rfl | (apply kOIdx; (first | exact aIdx)) | exact aRest | exact aNew | exact (ov_field1 (ft := 37) rfl rfl rfl rfl))) | (refine kN ?_; (first | (refine kStore ?_; (first | refine s_store1 _ rfl rfl gpA rfl (by rfl) ?_ | refine s_storeS _ rfl rfl gpA rfl rfl (by rfl) ?_ | refine s_storeS _ rfl rfl gpA rfl (ones_img oiA) (by rfl) ?_)) | refine s_boxS rfl rfl (fun b hb => ?_) | refine s_allocS rfl (fun b hb => ?_) | refine s_box1 rfl rfl rfl (fun b hb => ?_) | refine s_alloc1 rfl rfl (fun b hb => ?_) | refine s_buildSlice0 rfl (fun b hb => ?_) | refine s_buildSlice rfl rfl rfl rfl rfl (fun b hb => ?_) | apply s_step)) | (refine kG ?_; (first | refine s_gyes rfl rfl rfl ?_ | refine s_gno rfl rfl rfl rfl rfl ?_ | ((first | refine s_split_d rfl rfl (fun h => ?_) (fun h => ?_) | refine s_split_n rfl rfl (fun h => ?_) (fun h => ?_)) <;> (try (first | contradiction | (exfalso; omega)))) | refine s_split_nb rfl rfl (fun h => ?_) (fun h => ?_) | refine s_split rfl rfl (fun h => ?_) (fun h => ?_))) | refine l_then ?_ | (refine kC ?_; (first | (refine c_loopV (ι := Unit) (fun _ => True) (fun _ => [(1, .int .i64 k), (5, .int .i64 0)]) (fun _ => [[]]) (fun _ => 0) () trivial rfl (fun _ => rfl) (by repeat' first | exact trivial | refine ⟨rfl, ?_⟩) (fun w hw => by simpa using hw) (fun j hj => ?_)) | refine c_seq ?_ | refine c_regionN rfl ?_ | refine c_ret ?_ | (refine kCond ?_; (first | refine c_cond_t rfl ?_ | refine c_cond_f rfl ?_ | ((first | refine c_cond_d rfl (fun h => ?_) (fun h => ?_) | refine c_cond_n rfl (fun h => ?_) (fun h => ?_)) <;> (try (first | contradiction | (exfalso; omega)))) | refine c_cond_nb rfl (fun h => ?_) (fun h => ?_) | refine c_cond rfl (fun h => ?_) (fun h => ?_))) | refine c_block ?_ | refine c_skip ?_ | refine c_exit ?_ | refine c_regionQN rfl rfl (by decide +kernel) ?_)) | apply s_stepQ | (refine kQG ?_; (first | refine s_gyesQ rfl rfl rfl ?_ | refine s_gnoQ rfl rfl rfl rfl rfl ?_ | ((first | refine s_splitQ_d rfl rfl (fun h => ?_) (fun h => ?_) | refine s_splitQ_n rfl rfl (fun h => ?_) (fun h => ?_)) <;> (try (first | contradiction | (exfalso; omega)))) | refine s_splitQ_nb rfl rfl (fun h => ?_) (fun h => ?_) | refine s_splitQ rfl rfl (fun h => ?_) (fun h => ?_))) | refine lQ_then ?_ | refine lQ_ends ?_ | (refine kE ?_; (first | refine e_then_r ?_ | refine e_block_r ?_ | refine e_then_n ?_ | refine e_then_x ?_ | refine e_block_n ?_ | refine e_block_x ?_ | refine e_block_y rfl ?_)) | refine l_ends ?_)
    · exact s_leave1 rfl rfl (fun w hw => ⟨_, _, _, rfl, ⟨by simp, OVs.nil, rfl⟩, SSt.lone hw⟩)
  | blk b n cap xs r h1 h2 h3 h4 =>
    subst hx
    subst hnn
    refine SYieldsG.mk (s_enterM Try.func183 rfl Try.ntmps183 rfl hH hn ?_)
    repeat' (first | exact rfl | (apply kO; (first | exact ov_pure rfl | (apply kOBin; (first | exact aBin | exact (ov_add rfl rfl (by omega)))) | (apply kOCall; (first | (apply kCallB; (first | exact aBlt | exact aLenR)))) | (apply kOLoad; (first | exact aLdF | exact aLdR)) | exact ov_fieldAddr rfl | (apply kOIdx; (first | exact (ov_indexAddr rfl rfl (by omega)) | exact aIdx)) | exact aRest | exact aNew | exact (ov_field1 (ft := 37) rfl rfl rfl rfl))) | (refine kN ?_; (first | (refine kStore ?_; (first | (refine s_setR 0 rfl rfl rfl rfl (by (try simp only [List.length_set]); rw [List.length_append, hrl, hml j hj]; omega) ?_) | refine s_store1 _ rfl rfl gpA rfl (by rfl) ?_ | refine s_storeS _ rfl rfl gpA rfl rfl (by rfl) ?_ | refine s_storeS _ rfl rfl gpA rfl (ones_img oiA) (by rfl) ?_)) | refine s_boxS rfl rfl (fun b hb => ?_) | refine s_allocS rfl (fun b hb => ?_) | refine s_box1 rfl rfl rfl (fun b hb => ?_) | refine s_alloc1 rfl rfl (fun b hb => ?_) | refine s_buildSlice0 rfl (fun b hb => ?_) | refine s_buildSlice rfl rfl rfl rfl rfl (fun b hb => ?_) | apply s_step)) | (refine kG ?_; (first | refine s_gyes rfl rfl rfl ?_ | refine s_gno rfl rfl rfl rfl rfl ?_ | ((first | refine s_split_d rfl rfl (fun h => ?_) (fun h => ?_) | refine s_split_n rfl rfl (fun h => ?_) (fun h => ?_)) <;> (try (first | contradiction | (exfalso; omega)))) | refine s_split_nb rfl rfl (fun h => ?_) (fun h => ?_) | refine s_split rfl rfl (fun h => ?_) (fun h => ?_))) | refine l_then ?_ | (refine kC ?_; (first | (refine c_loopV (ι := Nat) (fun j => j ≤ l.length) (fun j => [(1, .int .i64 (k + 4 * j)), (5, .int .i64 (j : Int))]) (fun j => [[(b, srow ((markRTo l k j).flatMap cRect ++ r) 73)]]) (fun j => l.length - j) 0 (by omega) rfl (fun _ => rfl) ⟨slook_to rfl (vint_to (by simp)), rfl, trivial⟩ (fun w hw => by rw [markRTo_zero]; simpa using hw) (fun j hj => ?_)) | refine c_seq ?_ | refine c_regionN rfl ?_ | refine c_ret ?_ | (refine kCond ?_; (first | refine c_cond_t rfl ?_ | refine c_cond_f rfl ?_ | ((first | refine c_cond_d rfl (fun h => ?_) (fun h => ?_) | refine c_cond_n rfl (fun h => ?_) (fun h => ?_)) <;> (try (first | contradiction | (exfalso; omega)))) | refine c_cond_nb rfl (fun h => ?_) (fun h => ?_) | refine c_cond rfl (fun h => ?_) (fun h => ?_))) | refine c_block ?_ | refine c_skip ?_ | refine c_exit ?_ | refine c_regionQN rfl rfl (by decide +kernel) ?_)) | apply s_stepQ | (refine kQG ?_; (first | refine s_gyesQ rfl rfl rfl ?_ | refine s_gnoQ rfl rfl rfl rfl rfl ?_ | ((first | refine s_splitQ_d rfl rfl (fun h => ?_) (fun h => ?_) | refine s_splitQ_n rfl rfl (fun h => ?_) (fun h => ?_)) <;> (try (first | contradiction | (exfalso; omega)))) | refine s_splitQ_nb rfl rfl (fun h => ?_) (fun h => ?_) | refine s_splitQ rfl rfl (fun h => ?_) (fun h => ?_))) | refine lQ_then ?_ | refine lQ_ends ?_ | (refine kE ?_; (first | refine e_then_r ?_ | refine e_block_r ?_ | refine e_then_n ?_ | refine e_then_x ?_ | refine e_block_n ?_ | refine e_block_x ?_ | refine e_block_y rfl ?_)) | refine l_ends ?_)
    · refine e_round (j + 1) (by omega) ⟨slook_to rfl (vint_to (by push_cast; omega)), rfl, (by repeat' first | exact trivial | refine ⟨rfl, ?_⟩)⟩ (fun w hw => ?_) (by omega)
      rw [← markRTo_set l k r (by omega)]
      simp only [Nat.zero_add, Int.toNat_natCast, Nat.add_zero] at hw ⊢
      exact hw
    · obtain rfl : j = l.length := by omega
      rw [markRTo_all]
      refine s_leave1 rfl rfl (fun w hw => ⟨_, _, _, rfl, ⟨rfl, ?_, rfl⟩, SSt.lone hw⟩)
      have := OVec.blk (k := 4) (T := 73) b l.length cap ((iotaR k l.length).flatMap cRect) r (by rw [hrl, hil]) (by rw [List.length_append, hrl] at h2 ⊢; rw [hil]; exact h2) h3 h4
      unfold ORects OVs
      rw [hil]; exact this
end Go.Proofs.Ytakijgpoaeggnaa
/-
  Contracts: the laws' own helpers on surfaces and scenes.
-/
set_option linter.unusedVariables false
namespace Go.Proofs.Ytakijgpoaeggnaa
open Go Sx
attribute [local irreducible] Exit.then Exit.inBlock bodyPost
theorem c_szSurface (s : DSurf) (d : Value) (left : Int) (w : World) (hd : RInts w d s.buf.data) (hl : 0 ≤ left ∧ left ≤ 1048576) : SYields Try.prog 179 #[vSurf s d, .int .i64 left] (.int .i64 (szI s.buf.data.length left)) w := by
  have hk := hd.len
  (first | apply SYields.mk | apply SYieldsF.mk | skip); refine s_enter Try.func179 rfl Try.ntmps179 rfl ?_
  repeat' (first | exact rfl | (apply kO; (first | exact ov_pure rfl | (apply kOBin; (first | exact aBin)) | (apply kOCall; (first | (apply kCallF; (first | exact (ov_call rfl (fun w hw => c_szImage s.buf _ _ w (riA hw) (by omega))))) | (apply kCallB; (first | exact aBlt | exact aLenR)))) | (apply kOLoad; (first | exact aLdF | exact aLdR)) | exact ov_fieldAddr rfl | (apply kOIdx; (first | exact aIdx)) | exact aRest | exact aNew | exact (ov_field1 (ft := 37) rfl rfl rfl rfl))) | (refine kN ?_; (first | (refine kStore ?_; (first | refine s_store1 _ rfl rfl gpA rfl (by rfl) ?_ | refine s_storeS _ rfl rfl gpA rfl rfl (by rfl) ?_ | refine s_storeS _ rfl rfl gpA rfl (ones_img oiA) (by rfl) ?_)) | refine s_boxS rfl rfl (fun b hb => ?_) | refine s_allocS rfl (fun b hb => ?_) | refine s_box1 rfl rfl rfl (fun b hb => ?_) | refine s_alloc1 rfl rfl (fun b hb => ?_) | refine s_buildSlice0 rfl (fun b hb => ?_) | refine s_buildSlice rfl rfl rfl rfl rfl (fun b hb => ?_) | apply s_step)) | (refine kG ?_; (first | refine s_gyes rfl rfl rfl ?_ | refine s_gno rfl rfl rfl rfl rfl ?_ | ((first | refine s_split_d rfl rfl (fun h => ?_) (fun h => ?_) | refine s_split_n rfl rfl (fun h => ?_) (fun h => ?_)) <;> (try (first | contradiction | (exfalso; omega)))) | refine s_split_nb rfl rfl (fun h => ?_) (fun h => ?_) | refine s_split rfl rfl (fun h => ?_) (fun h => ?_))) | refine l_then ?_ | (refine kC ?_; (first | refine c_seq ?_ | refine c_regionN rfl ?_ | refine c_ret ?_ | (refine kCond ?_; (first | refine c_cond_t rfl ?_ | refine c_cond_f rfl ?_ | ((first | refine c_cond_d rfl (fun h => ?_) (fun h => ?_) | refine c_cond_n rfl (fun h => ?_) (fun h => ?_)) <;> (try (first | contradiction | (exfalso; omega)))) | refine c_cond_nb rfl (fun h => ?_) (fun h => ?_) | refine c_cond rfl (fun h => ?_) (fun h => ?_))) | refine c_block ?_ | refine c_skip ?_ | refine c_exit ?_ | refine c_regionQN rfl rfl (by decide +kernel) ?_)) | apply s_stepQ | (refine kQG ?_; (first | refine s_gyesQ rfl rfl rfl ?_ | refine s_gnoQ rfl rfl rfl rfl rfl ?_ | ((first | refine s_splitQ_d rfl rfl (fun h => ?_) (fun h => ?_) | refine s_splitQ_n rfl rfl (fun h => ?_) (fun h => ?_)) <;> (try (first | contradiction | (exfalso; omega)))) | refine s_splitQ_nb rfl rfl (fun h => ?_) (fun h => ?_) | refine s_splitQ rfl rfl (fun h => ?_) (fun h => ?_))) | refine lQ_then ?_ | refine lQ_ends ?_ | (refine kE ?_; (first | refine e_then_r ?_ | refine e_block_r ?_ | refine e_then_n ?_ | refine e_then_x ?_ | refine e_block_n ?_ | refine e_block_x ?_ | refine e_block_y rfl ?_)) | refine l_ends ?_)
  all_goals refine s_leave1 rfl rfl (fun w hw => ⟨?_, hw.below⟩)
  all_goals (refine ret_int ?_; unfold szI at *; (repeat' split at *) <;> omega)
theorem c_toSurface (s : DSurf) (d : Value) (w : World) (hd : RInts w d s.buf.data) (hl : s.buf.data.length ≤ 1048576) : SYieldsF Try.prog 180 #[vSurf s d] (fun u H => OSurf u s H) w := by
  have hd' := hd.form
  obtain ⟨_, _, rfl⟩ := hd'
  (first | apply SYields.mk | apply SYieldsF.mk | skip); refine s_enter Try.func180 rfl Try.ntmps180 rfl ?_
  repeat' (first | exact rfl | (apply kO; (first | exact ov_pure rfl | (apply kOBin; (first | exact aBin)) | (apply kOCall; (first | (apply kCallB; (first | exact aBlt | exact aLenR)))) | (apply kOLoad; (first | exact aLdF | exact aLdR)) | exact ov_fieldAddr rfl | (apply kOIdx; (first | exact aIdx)) | exact aRest | exact aNew | exact (ov_field1 (ft := 37) rfl rfl rfl rfl))) | (refine kN ?_; (first | (refine kCall ?_; (first | (refine kWFunc ?_; (refine s_callF (fun u H => OImg u s.buf H) rfl (fun w hw => c_toImage s.buf _ w (riA hw) hl) rfl (fun u H hu => ?_); obtain ⟨d', rfl, hu⟩ := hu; obtain ⟨_, _, rfl⟩ := hu.form)) | apply s_step)) | (refine kStore ?_; (first | refine s_store1 _ rfl rfl gpA rfl (by rfl) ?_ | refine s_storeS _ rfl rfl gpA rfl rfl (by rfl) ?_ | refine s_storeS _ rfl rfl gpA rfl (ones_img oiA) (by rfl) ?_)) | refine s_boxS rfl rfl (fun b hb => ?_) | refine s_allocS rfl (fun b hb => ?_) | refine s_box1 rfl rfl rfl (fun b hb => ?_) | refine s_alloc1 rfl rfl (fun b hb => ?_) | refine s_buildSlice0 rfl (fun b hb => ?_) | refine s_buildSlice rfl rfl rfl rfl rfl (fun b hb => ?_) | apply s_step)) | (refine kG ?_; (first | refine s_gyes rfl rfl rfl ?_ | refine s_gno rfl rfl rfl rfl rfl ?_ | ((first | refine s_split_d rfl rfl (fun h => ?_) (fun h => ?_) | refine s_split_n rfl rfl (fun h => ?_) (fun h => ?_)) <;> (try (first | contradiction | (exfalso; omega)))) | refine s_split_nb rfl rfl (fun h => ?_) (fun h => ?_) | refine s_split rfl rfl (fun h => ?_) (fun h => ?_))) | refine l_then ?_ | (refine kC ?_; (first | refine c_seq ?_ | refine c_regionN rfl ?_ | refine c_ret ?_ | (refine kCond ?_; (first | refine c_cond_t rfl ?_ | refine c_cond_f rfl ?_ | ((first | refine c_cond_d rfl (fun h => ?_) (fun h => ?_) | refine c_cond_n rfl (fun h => ?_) (fun h => ?_)) <;> (try (first | contradiction | (exfalso; omega)))) | refine c_cond_nb rfl (fun h => ?_) (fun h => ?_) | refine c_cond rfl (fun h => ?_) (fun h => ?_))) | refine c_block ?_ | refine c_skip ?_ | refine c_exit ?_ | refine c_regionQN rfl rfl (by decide +kernel) ?_)) | apply s_stepQ | (refine kQG ?_; (first | refine s_gyesQ rfl rfl rfl ?_ | refine s_gnoQ rfl rfl rfl rfl rfl ?_ | ((first | refine s_splitQ_d rfl rfl (fun h => ?_) (fun h => ?_) | refine s_splitQ_n rfl rfl (fun h => ?_) (fun h => ?_)) <;> (try (first | contradiction | (exfalso; omega)))) | refine s_splitQ_nb rfl rfl (fun h => ?_) (fun h => ?_) | refine s_splitQ rfl rfl (fun h => ?_) (fun h => ?_))) | refine lQ_then ?_ | refine lQ_ends ?_ | (refine kE ?_; (first | refine e_then_r ?_ | refine e_block_r ?_ | refine e_then_n ?_ | refine e_then_x ?_ | refine e_block_n ?_ | refine e_block_x ?_ | refine e_block_y rfl ?_)) | refine l_ends ?_)
  all_goals (refine kE ?_; refine s_leaveSF rfl rfl rfl fwA (fun w hw => ?_))
  exact ⟨_, _, rfl, ⟨_, rfl, by assumption⟩, hw.toFresh (i := 0) rfl⟩
theorem c_eqSurface (a c : DSurf) (d e : Value) (w : World) (hd : RInts w d a.buf.data) (he : RInts w e c.buf.data) : SYields Try.prog 182 #[vSurf a d, vSurf c e] (.bool (decide (a = c))) w := by
  (first | apply SYields.mk | apply SYieldsF.mk | skip); refine s_enter Try.func182 rfl Try.ntmps182 rfl ?_
  repeat' (first | exact rfl | (apply kO; (first | exact ov_pure rfl | (apply kOBin; (first | exact aBin)) | (apply kOCall; (first | (apply kCallF; (first | exact (ov_call rfl (fun w hw => c_eqImage a.buf c.buf _ _ w (riA hw) (riA hw))))) | (apply kCallB; (first | exact aBlt | exact aLenR)))) | (apply kOLoad; (first | exact aLdF | exact aLdR)) | exact ov_fieldAddr rfl | (apply kOIdx; (first | exact aIdx)) | exact aRest | exact aNew | exact (ov_field1 (ft := 37) rfl rfl rfl rfl))) | (refine kN ?_; (first | (refine kStore ?_; (first | refine s_store1 _ rfl rfl gpA rfl (by rfl) ?_ | refine s_storeS _ rfl rfl gpA rfl rfl (by rfl) ?_ | refine s_storeS _ rfl rfl gpA rfl (ones_img oiA) (by rfl) ?_)) | refine s_boxS rfl rfl (fun b hb => ?_) | refine s_allocS rfl (fun b hb => ?_) | refine s_box1 rfl rfl rfl (fun b hb => ?_) | refine s_alloc1 rfl rfl (fun b hb => ?_) | refine s_buildSlice0 rfl (fun b hb => ?_) | refine s_buildSlice rfl rfl rfl rfl rfl (fun b hb => ?_) | apply s_step)) | (refine kG ?_; (first | refine s_gyes rfl rfl rfl ?_ | refine s_gno rfl rfl rfl rfl rfl ?_ | ((first | refine s_split_d rfl rfl (fun h => ?_) (fun h => ?_) | refine s_split_n rfl rfl (fun h => ?_) (fun h => ?_)) <;> (try (first | contradiction | (exfalso; omega)))) | refine s_split_nb rfl rfl (fun h => ?_) (fun h => ?_) | refine s_split rfl rfl (fun h => ?_) (fun h => ?_))) | refine l_then ?_ | (refine kC ?_; (first | refine c_seq ?_ | refine c_regionN rfl ?_ | refine c_ret ?_ | (refine kCond ?_; (first | refine c_cond_t rfl ?_ | refine c_cond_f rfl ?_ | ((first | refine c_cond_d rfl (fun h => ?_) (fun h => ?_) | refine c_cond_n rfl (fun h => ?_) (fun h => ?_)) <;> (try (first | contradiction | (exfalso; omega)))) | refine c_cond_nb rfl (fun h => ?_) (fun h => ?_) | refine c_cond rfl (fun h => ?_) (fun h => ?_))) | refine c_block ?_ | refine c_skip ?_ | refine c_exit ?_ | refine c_regionQN rfl rfl (by decide +kernel) ?_)) | apply s_stepQ | (refine kQG ?_; (first | refine s_gyesQ rfl rfl rfl ?_ | refine s_gnoQ rfl rfl rfl rfl rfl ?_ | ((first | refine s_splitQ_d rfl rfl (fun h => ?_) (fun h => ?_) | refine s_splitQ_n rfl rfl (fun h => ?_) (fun h => ?_)) <;> (try (first | contradiction | (exfalso; omega)))) | refine s_splitQ_nb rfl rfl (fun h => ?_) (fun h => ?_) | refine s_splitQ rfl rfl (fun h => ?_) (fun h => ?_))) | refine lQ_then ?_ | refine lQ_ends ?_ | (refine kE ?_; (first | refine e_then_r ?_ | refine e_block_r ?_ | refine e_then_n ?_ | refine e_then_x ?_ | refine e_block_n ?_ | refine e_block_x ?_ | refine e_block_y rfl ?_)) | refine l_ends ?_)
  all_goals refine s_leave1 rfl rfl (fun w hw => ⟨?_, hw.below⟩)
  all_goals first | exact ret_false (fun e => by subst e; first | contradiction | (simp at *; done)) | exact ret_true (DSurf.eq (by omega) (by omega) (by omega) (by omega) (by omega) (by omega) (by omega) (by simp_all) (by assumption))
theorem c_szSurfaceS (v : Value) (l : List DSurf) (left : Int) (w : World) (hv : RS eSurf w v l) (hl : 0 ≤ left ∧ left ≤ 1048576) : SYields Try.prog 127 #[v, .int .i64 left] (.int .i64 (szI (surfsLen l) left)) w := by
  obtain ⟨ds, hv⟩ := hv
  have hk := hv.row.len
  have hm := fun j => sumTo_mono (fun i => (l.getD i default).buf.data.length) (i := j) (n := l.length)
  have hs := fun j => (show sumTo (fun i => (l.getD i default).buf.data.length) (j + 1) = sumTo (fun i => (l.getD i default).buf.data.length) j + (l.getD j default).buf.data.length from rfl)
  (first | apply SYields.mk | apply SYieldsF.mk | skip); refine s_enter Try.func127 rfl Try.ntmps127 rfl ?_
  repeat' (first | exact rfl | (apply kO; (first | exact ov_pure rfl | (apply kOBin; (first | exact aBin)) | (apply kOCall; (first | (apply kCallF; (first | exact (ov_call rfl (fun w hw => c_szSurface _ _ _ w (RInts.keep (hv.rd _ (by omega)) (hw.cells rfl)) (by omega))))) | (apply kCallB; (first | exact aBlt | exact aLenR)))) | (apply kOLoad; (first | exact aLdF | exact aLdR)) | exact ov_fieldAddr rfl | (apply kOIdx; (first | exact aIdx)) | exact aRest | exact aNew | exact (ov_field1 (ft := 37) rfl rfl rfl rfl))) | (refine kN ?_; (first | (refine kStore ?_; (first | refine s_store1 _ rfl rfl gpA rfl (by rfl) ?_ | refine s_storeS _ rfl rfl gpA rfl rfl (by rfl) ?_ | refine s_storeS _ rfl rfl gpA rfl (ones_img oiA) (by rfl) ?_)) | refine s_boxS rfl rfl (fun b hb => ?_) | refine s_allocS rfl (fun b hb => ?_) | refine s_box1 rfl rfl rfl (fun b hb => ?_) | refine s_alloc1 rfl rfl (fun b hb => ?_) | refine s_buildSlice0 rfl (fun b hb => ?_) | refine s_buildSlice rfl rfl rfl rfl rfl (fun b hb => ?_) | apply s_step)) | (refine kG ?_; (first | refine s_gyes rfl rfl rfl ?_ | refine s_gno rfl rfl rfl rfl rfl ?_ | ((first | refine s_split_d rfl rfl (fun h => ?_) (fun h => ?_) | refine s_split_n rfl rfl (fun h => ?_) (fun h => ?_)) <;> (try (first | contradiction | (exfalso; omega)))) | refine s_split_nb rfl rfl (fun h => ?_) (fun h => ?_) | refine s_split rfl rfl (fun h => ?_) (fun h => ?_))) | refine l_then ?_ | (refine kC ?_; (first | (refine c_loopV (ι := Nat) (fun j => j ≤ l.length ∧ 0 ≤ left - (l.length + sumTo (fun i => (l.getD i default).buf.data.length) j : Nat)) (fun j => [(1, .int .i64 (left - (l.length + sumTo (fun i => (l.getD i default).buf.data.length) j : Nat))), (5, .int .i64 (j : Int))]) (fun _ => []) (fun j => l.length - j) 0 ⟨by omega, by simp [sumTo]; omega⟩ rfl (fun _ => rfl) ⟨slook_to rfl (vint_to (by simp [sumTo])), rfl, trivial⟩ (fun w hw => hw) (fun j hj => ?_)) | refine c_seq ?_ | refine c_regionN rfl ?_ | refine c_ret ?_ | (refine kCond ?_; (first | refine c_cond_t rfl ?_ | refine c_cond_f rfl ?_ | ((first | refine c_cond_d rfl (fun h => ?_) (fun h => ?_) | refine c_cond_n rfl (fun h => ?_) (fun h => ?_)) <;> (try (first | contradiction | (exfalso; omega)))) | refine c_cond_nb rfl (fun h => ?_) (fun h => ?_) | refine c_cond rfl (fun h => ?_) (fun h => ?_))) | refine c_block ?_ | refine c_skip ?_ | refine c_exit ?_ | refine c_regionQN rfl rfl (by decide +kernel) ?_)) | apply s_stepQ | (refine kQG ?_; (first | refine s_gyesQ rfl rfl rfl ?_ | refine s_gnoQ rfl rfl rfl rfl rfl ?_ | ((first | refine s_splitQ_d rfl rfl (fun h => ?_) (fun h => ?_) | refine s_splitQ_n rfl rfl (fun h => ?_) (fun h => ?_)) <;> (try (first | contradiction | (exfalso; omega)))) | refine s_splitQ_nb rfl rfl (fun h => ?_) (fun h => ?_) | refine s_splitQ rfl rfl (fun h => ?_) (fun h => ?_))) | refine lQ_then ?_ | refine lQ_ends ?_ | (refine kE ?_; (first | refine e_then_r ?_ | refine e_block_r ?_ | refine e_then_n ?_ | refine e_then_x ?_ | refine e_block_n ?_ | refine e_block_x ?_ | refine e_block_y rfl ?_)) | refine l_ends ?_)
  all_goals try simp only [Int.toNat_natCast, eSurf_dflt] at *
  · exact s_leave1 rfl rfl (fun w hw => ⟨ret_int (by unfold szI surfsLen; rw [if_pos (by omega)]), hw.below⟩)
  · have h1 := hs j
    have h2 := hm (j + 1) (by omega)
    exact s_leave1 rfl rfl (fun w hw => ⟨ret_int (by unfold szI at *; unfold surfsLen; rw [if_pos (by split at h <;> omega)]), hw.below⟩)
  · have h1 := hs j
    have h2 := hm (j + 1) (by omega)
    have h3 : szI (l.getD j default).buf.data.length (left - (l.length + sumTo (fun i => (l.getD i default).buf.data.length) j : Nat)) = left - (l.length + sumTo (fun i => (l.getD i default).buf.data.length) (j + 1) : Nat) := by
      unfold szI at *; split at h
      · omega
      · rw [if_neg (by assumption)]; omega
    exact e_round (j + 1) ⟨by omega, by rw [h3] at h; omega⟩ ⟨slook_to rfl (vint_to h3), rfl, (by repeat' first | exact trivial | refine ⟨rfl, ?_⟩)⟩ (fun w hw => hw) (by omega)
  · obtain rfl : j = l.length := by omega
    exact s_leave1 rfl rfl (fun w hw => ⟨ret_int (by unfold szI surfsLen; rw [if_neg (by omega)]), hw.below⟩)
theorem c_toSurfaceS (v : Value) (l : List DSurf) (w : World) (hv : RS eSurf w v l) (hl : surfsLen l ≤ 1048576) : SYieldsF Try.prog 129 #[v] (fun u H => OElems eSurf 62 u l H) w := by
  obtain ⟨ds, hv⟩ := hv
  have hk := hv.row.len
  have hln : l.length ≤ surfsLen l := by unfold surfsLen; omega
  have hdn : ∀ i, i < l.length → (l.getD i default).buf.data.length ≤ 1048576 := fun i hi => by have := le_sumTo (fun i => (l.getD i default).buf.data.length) hi; unfold surfsLen at hl; omega
  (first | apply SYields.mk | apply SYieldsF.mk | skip); refine s_enter Try.func129 rfl Try.ntmps129 rfl ?_
  repeat' (first | exact rfl | (apply kO; (first | exact ov_pure rfl | (apply kOBin; (first | exact aBin)) | (apply kOCall; (first | (apply kCallB; (first | exact aBlt | exact aLenR)))) | (apply kOLoad; (first | exact aLdF | exact aLdR)) | exact ov_fieldAddr rfl | (apply kOIdx; (first | exact aIdx)) | exact aRest | exact aNew | exact (ov_field1 (ft := 37) rfl rfl rfl rfl))) | (refine kN ?_; (first | (refine kCall ?_; (first | (refine kWFunc ?_; (refine s_callF (fun u H => OSurf u (l.getD j.1 default) H) rfl (fun w hw => c_toSurface _ _ w (RInts.keep (hv.rd _ (by omega)) (hw.cells rfl)) (hdn _ (by omega))) rfl (fun u H hu => ?_); obtain ⟨d', rfl, hu⟩ := hu; obtain ⟨ua, uc, rfl⟩ := hu.form)) | apply s_step)) | (refine kStore ?_; (first | (refine s_setRS 1 rfl rfl rfl rfl rfl (by rw [efill_length _ _ _ _ rfl _ _ (by omega)]; simp only [eSurf, List.length_cons, List.length_nil]; omega) ?_) | refine s_store1 _ rfl rfl gpA rfl (by rfl) ?_ | refine s_storeS _ rfl rfl gpA rfl rfl (by rfl) ?_ | refine s_storeS _ rfl rfl gpA rfl (ones_img oiA) (by rfl) ?_)) | refine s_boxS rfl rfl (fun b hb => ?_) | refine s_allocS rfl (fun b hb => ?_) | refine s_box1 rfl rfl rfl (fun b hb => ?_) | refine s_alloc1 rfl rfl (fun b hb => ?_) | (refine kWMake ?_; (refine s_makeS rfl rfl rfl (by decide) ⟨by omega, by omega, by omega⟩ (by omega) rfl (fun b hb => ?_))) | refine s_buildSlice0 rfl (fun b hb => ?_) | refine s_buildSlice rfl rfl rfl rfl rfl (fun b hb => ?_) | apply s_step)) | (refine kG ?_; (first | refine s_gyes rfl rfl rfl ?_ | refine s_gno rfl rfl rfl rfl rfl ?_ | ((first | refine s_split_d rfl rfl (fun h => ?_) (fun h => ?_) | refine s_split_n rfl rfl (fun h => ?_) (fun h => ?_)) <;> (try (first | contradiction | (exfalso; omega)))) | refine s_split_nb rfl rfl (fun h => ?_) (fun h => ?_) | refine s_split rfl rfl (fun h => ?_) (fun h => ?_))) | refine l_then ?_ | (refine kC ?_; (first | (refine c_loopV (ι := Nat × (Nat → Value) × (Nat → SPiece)) (fun j => j.1 ≤ l.length ∧ ∀ i, i < j.1 → eSurf.own (j.2.1 i) (l.getD i eSurf.dflt) (j.2.2 i)) (fun j => [(4, .int .i64 (j.1 : Int))]) (fun j => [[(b, srow (efill eSurf l j.2.1 [.int .i64 0, .int .i64 0, .int .i64 0, .int .i64 0, .int .i64 0, .int .i64 0, .int .i64 0, .bool false, .int .i64 0, .int .i64 0, .slice none 0 0] l.length j.1) 62)], ecat j.2.2 j.1]) (fun j => l.length - j.1) (0, fun _ => undef, fun _ => []) ⟨by omega, fun i hi => by omega⟩ rfl (fun _ => rfl) ⟨rfl, trivial⟩ (fun w hw => by rw [efill_zero]; exact SSt.lone hw) (fun j hj => ?_)) | refine c_seq ?_ | refine c_regionN rfl ?_ | refine c_ret ?_ | (refine kCond ?_; (first | refine c_cond_t rfl ?_ | refine c_cond_f rfl ?_ | ((first | refine c_cond_d rfl (fun h => ?_) (fun h => ?_) | refine c_cond_n rfl (fun h => ?_) (fun h => ?_)) <;> (try (first | contradiction | (exfalso; omega)))) | refine c_cond_nb rfl (fun h => ?_) (fun h => ?_) | refine c_cond rfl (fun h => ?_) (fun h => ?_))) | refine c_block ?_ | refine c_skip ?_ | refine c_exit ?_ | refine c_regionQN rfl rfl (by decide +kernel) ?_)) | apply s_stepQ | (refine kQG ?_; (first | refine s_gyesQ rfl rfl rfl ?_ | refine s_gnoQ rfl rfl rfl rfl rfl ?_ | ((first | refine s_splitQ_d rfl rfl (fun h => ?_) (fun h => ?_) | refine s_splitQ_n rfl rfl (fun h => ?_) (fun h => ?_)) <;> (try (first | contradiction | (exfalso; omega)))) | refine s_splitQ_nb rfl rfl (fun h => ?_) (fun h => ?_) | refine s_splitQ rfl rfl (fun h => ?_) (fun h => ?_))) | refine lQ_then ?_ | refine lQ_ends ?_ | (refine kE ?_; (first | refine e_then_r ?_ | refine e_block_r ?_ | refine e_then_n ?_ | refine e_then_x ?_ | refine e_block_n ?_ | refine e_block_x ?_ | refine e_block_y rfl ?_)) | refine l_ends ?_)
  · refine e_round (j.1 + 1, upd j.2.1 j.1 (.slice ua (l.getD j.1 default).buf.data.length uc), upd j.2.2 j.1 H) ⟨by dsimp only; omega, fun i hi => ?_⟩ ⟨rfl, (by repeat' first | exact trivial | refine ⟨rfl, ?_⟩)⟩ (fun w hw => ?_) (by dsimp only; omega)
    · dsimp only at hi ⊢
      by_cases e : i = j.1
      · subst e; rw [upd_at, upd_at]; exact hu
      · rw [upd_old _ _ e, upd_old _ _ e]; exact hj.2 i (by omega)
    · dsimp only
      have hw := SSt.regroup hw
      rw [ecat_upd, ← efill_next eSurf l j.2.1 _ _ rfl l.length j.1 (by omega) _ (fun i hi => upd_old _ _ (by omega)) (upd_at _ _ _)]
      rw [show 0 + (j.1 : Int).toNat * 11 = j.1 * eSurf.k by rw [Int.toNat_natCast, Nat.zero_add]; rfl] at hw
      exact hw
  · have he : j.1 = l.length := by omega
    rw [he, efill_all]
    refine s_leave1 rfl rfl (fun w hw => ⟨_, _, rfl, ?_, hw.whole⟩)
    exact OElems.mk b (fun i hi => hj.2 i (by omega)) (by unfold maxLen; omega)
theorem c_eqSurfaceS (u v : Value) (k l : List DSurf) (w : World) (hu : RS eSurf w u k) (hv : RS eSurf w v l) : SYields Try.prog 131 #[u, v] (.bool (decide (k = l))) w := by
  obtain ⟨ds, hu⟩ := hu
  obtain ⟨es, hv⟩ := hv
  have hk := hu.row.len
  have hl := hv.row.len
  (first | apply SYields.mk | apply SYieldsF.mk | skip); refine s_enter Try.func131 rfl Try.ntmps131 rfl ?_
  repeat' (first | exact rfl | (apply kO; (first | exact ov_pure rfl | (apply kOBin; (first | exact aBin)) | (apply kOCall; (first | (apply kCallF; (first | exact (ov_call rfl (fun w hw => c_eqSurface _ _ _ _ w (RInts.keep (hu.rd _ (by omega)) (hw.cells rfl)) (RInts.keep (hv.rd _ (by omega)) (hw.cells rfl)))))) | (apply kCallB; (first | exact aBlt | exact (ov_lenR (fun w hw => hu.row.keep (hw.cells rfl)) rfl) | exact (ov_lenR (fun w hw => hv.row.keep (hw.cells rfl)) rfl) | exact aLenR)))) | (apply kOLoad; (first | exact (ov_ldRZ (fun w hw => hu.row.keep (hw.cells rfl)) rfl rfl (by omega) rfl) | exact (ov_ldRZ (fun w hw => hv.row.keep (hw.cells rfl)) rfl rfl (by omega) rfl) | exact aLdF | exact aLdR)) | exact ov_fieldAddr rfl | (apply kOIdx; (first | exact (ov_idxR (fun w hw => hu.row.keep (hw.cells rfl)) rfl rfl (by omega)) | exact (ov_idxR (fun w hw => hv.row.keep (hw.cells rfl)) rfl rfl (by omega)) | exact aIdx)) | exact aRest | exact aNew | exact (ov_field1 (ft := 37) rfl rfl rfl rfl))) | (refine kN ?_; (first | (refine kStore ?_; (first | refine s_store1 _ rfl rfl gpA rfl (by rfl) ?_ | refine s_storeS _ rfl rfl gpA rfl rfl (by rfl) ?_ | refine s_storeS _ rfl rfl gpA rfl (ones_img oiA) (by rfl) ?_)) | refine s_boxS rfl rfl (fun b hb => ?_) | refine s_allocS rfl (fun b hb => ?_) | refine s_box1 rfl rfl rfl (fun b hb => ?_) | refine s_alloc1 rfl rfl (fun b hb => ?_) | refine s_buildSlice0 rfl (fun b hb => ?_) | refine s_buildSlice rfl rfl rfl rfl rfl (fun b hb => ?_) | apply s_step)) | (refine kG ?_; (first | refine s_gyes rfl rfl rfl ?_ | refine s_gno rfl rfl rfl rfl rfl ?_ | ((first | refine s_split_d rfl rfl (fun h => ?_) (fun h => ?_) | refine s_split_n rfl rfl (fun h => ?_) (fun h => ?_)) <;> (try (first | contradiction | (exfalso; omega)))) | refine s_split_nb rfl rfl (fun h => ?_) (fun h => ?_) | refine s_split rfl rfl (fun h => ?_) (fun h => ?_))) | refine l_then ?_ | (refine kC ?_; (first | (refine c_loopV (ι := Nat) (fun j => j ≤ k.length ∧ eqTo k l default j) (fun j => [(5, .int .i64 (j : Int))]) (fun _ => []) (fun j => k.length - j) 0 ⟨by omega, eqTo_zero _ _ _⟩ rfl (fun _ => rfl) ⟨rfl, trivial⟩ (fun w hw => hw) (fun j hj => ?_)) | refine c_seq ?_ | refine c_regionN rfl ?_ | refine c_ret ?_ | (refine kCond ?_; (first | refine c_cond_t rfl ?_ | refine c_cond_f rfl ?_ | ((first | refine c_cond_d rfl (fun h => ?_) (fun h => ?_) | refine c_cond_n rfl (fun h => ?_) (fun h => ?_)) <;> (try (first | contradiction | (exfalso; omega)))) | refine c_cond_nb rfl (fun h => ?_) (fun h => ?_) | refine c_cond rfl (fun h => ?_) (fun h => ?_))) | refine c_block ?_ | refine c_skip ?_ | refine c_exit ?_ | refine c_regionQN rfl rfl (by decide +kernel) ?_)) | apply s_stepQ | (refine kQG ?_; (first | refine s_gyesQ rfl rfl rfl ?_ | refine s_gnoQ rfl rfl rfl rfl rfl ?_ | ((first | refine s_splitQ_d rfl rfl (fun h => ?_) (fun h => ?_) | refine s_splitQ_n rfl rfl (fun h => ?_) (fun h => ?_)) <;> (try (first | contradiction | (exfalso; omega)))) | refine s_splitQ_nb rfl rfl (fun h => ?_) (fun h => ?_) | refine s_splitQ rfl rfl (fun h => ?_) (fun h => ?_))) | refine lQ_then ?_ | refine lQ_ends ?_ | (refine kE ?_; (first | refine e_then_r ?_ | refine e_block_r ?_ | refine e_then_n ?_ | refine e_then_x ?_ | refine e_block_n ?_ | refine e_block_x ?_ | refine e_block_y rfl ?_)) | refine l_ends ?_)
  all_goals try simp only [Int.toNat_natCast, eSurf_dflt] at *
  · exact s_leave1 rfl rfl (fun w hw => ⟨ret_false (ne_of_len (by omega)), hw.below⟩)
  · exact s_leave1 rfl rfl (fun w hw => ⟨ret_false (fun e => by subst e; contradiction), hw.below⟩)
  · exact e_round (j + 1) ⟨by omega, eqTo_next hj.2 (by assumption)⟩ ⟨rfl, (by repeat' first | exact trivial | refine ⟨rfl, ?_⟩)⟩ (fun w hw => hw) (by omega)
  · exact s_leave1 rfl rfl (fun w hw => ⟨ret_true (list_eq_of_getD default (by omega) (fun i hi => hj.2 i (by omega))), hw.below⟩)
theorem c_szScene (s : DScene) (v : Value) (left : Int) (w : World) (hv : RS eSurf w v s.ss) (hl : 0 ≤ left ∧ left ≤ 1048576) : SYields Try.prog 56 #[vScene s v, .int .i64 left] (.int .i64 (szI (surfsLen s.ss) left)) w := by
  (first | apply SYields.mk | apply SYieldsF.mk | skip); refine s_enter Try.func56 rfl Try.ntmps56 rfl ?_
  repeat' (first | exact rfl | (apply kO; (first | exact ov_pure rfl | (apply kOBin; (first | exact aBin)) | (apply kOCall; (first | (apply kCallF; (first | exact (ov_call rfl (fun w hw => c_szSurfaceS _ _ _ w (reA hw) (by omega))))) | (apply kCallB; (first | exact aBlt | exact aLenR)))) | (apply kOLoad; (first | exact aLdF | exact aLdR)) | exact ov_fieldAddr rfl | (apply kOIdx; (first | exact aIdx)) | exact aRest | exact aNew | exact (ov_field1 (ft := 37) rfl rfl rfl rfl))) | (refine kN ?_; (first | (refine kStore ?_; (first | refine s_store1 _ rfl rfl gpA rfl (by rfl) ?_ | refine s_storeS _ rfl rfl gpA rfl rfl (by rfl) ?_ | refine s_storeS _ rfl rfl gpA rfl (ones_img oiA) (by rfl) ?_)) | refine s_boxS rfl rfl (fun b hb => ?_) | refine s_allocS rfl (fun b hb => ?_) | refine s_box1 rfl rfl rfl (fun b hb => ?_) | refine s_alloc1 rfl rfl (fun b hb => ?_) | refine s_buildSlice0 rfl (fun b hb => ?_) | refine s_buildSlice rfl rfl rfl rfl rfl (fun b hb => ?_) | apply s_step)) | (refine kG ?_; (first | refine s_gyes rfl rfl rfl ?_ | refine s_gno rfl rfl rfl rfl rfl ?_ | ((first | refine s_split_d rfl rfl (fun h => ?_) (fun h => ?_) | refine s_split_n rfl rfl (fun h => ?_) (fun h => ?_)) <;> (try (first | contradiction | (exfalso; omega)))) | refine s_split_nb rfl rfl (fun h => ?_) (fun h => ?_) | refine s_split rfl rfl (fun h => ?_) (fun h => ?_))) | refine l_then ?_ | (refine kC ?_; (first | refine c_seq ?_ | refine c_regionN rfl ?_ | refine c_ret ?_ | (refine kCond ?_; (first | refine c_cond_t rfl ?_ | refine c_cond_f rfl ?_ | ((first | refine c_cond_d rfl (fun h => ?_) (fun h => ?_) | refine c_cond_n rfl (fun h => ?_) (fun h => ?_)) <;> (try (first | contradiction | (exfalso; omega)))) | refine c_cond_nb rfl (fun h => ?_) (fun h => ?_) | refine c_cond rfl (fun h => ?_) (fun h => ?_))) | refine c_block ?_ | refine c_skip ?_ | refine c_exit ?_ | refine c_regionQN rfl rfl (by decide +kernel) ?_)) | apply s_stepQ | (refine kQG ?_; (first | refine s_gyesQ rfl rfl rfl ?_ | refine s_gnoQ rfl rfl rfl rfl rfl ?_ | ((first | refine s_splitQ_d rfl rfl (fun h => ?_) (fun h => ?_) | refine s_splitQ_n rfl rfl (fun h => ?_) (fun h => ?_)) <;> (try (first | contradiction | (exfalso; omega)))) | refine s_splitQ_nb rfl rfl (fun h => ?_) (fun h => ?_) | refine s_splitQ rfl rfl (fun h => ?_) (fun h => ?_))) | refine lQ_then ?_ | refine lQ_ends ?_ | (refine kE ?_; (first | refine e_then_r ?_ | refine e_block_r ?_ | refine e_then_n ?_ | refine e_then_x ?_ | refine e_block_n ?_ | refine e_block_x ?_ | refine e_block_y rfl ?_)) | refine l_ends ?_)
  all_goals refine s_leave1 rfl rfl (fun w hw => ⟨?_, hw.below⟩)
  all_goals (refine ret_int ?_; unfold szI at *; (repeat' split at *) <;> omega)
def OScene (u : Value) (s : DScene) (H : SPiece) : Prop := ∃ v, u = vScene s v ∧ OElems eSurf 62 v s.ss H
theorem c_toScene (s : DScene) (v : Value) (w : World) (hv : RS eSurf w v s.ss) (hl : surfsLen s.ss ≤ 1048576) : SYieldsF Try.prog 58 #[vScene s v] (fun u H => OScene u s H) w := by
  have hv' := hv.form
  obtain ⟨_, _, rfl⟩ := hv'
  (first | apply SYields.mk | apply SYieldsF.mk | skip); refine s_enter Try.func58 rfl Try.ntmps58 rfl ?_
  repeat' (first | exact rfl | (apply kO; (first | exact ov_pure rfl | (apply kOBin; (first | exact aBin)) | (apply kOCall; (first | (apply kCallB; (first | exact aBlt | exact aLenR)))) | (apply kOLoad; (first | exact aLdF | exact aLdR)) | exact ov_fieldAddr rfl | (apply kOIdx; (first | exact aIdx)) | exact aRest | exact aNew | exact (ov_field1 (ft := 37) rfl rfl rfl rfl))) | (refine kN ?_; (first | (refine kCall ?_; (first | (refine kWFunc ?_; (refine s_callF (fun u H => OElems eSurf 62 u s.ss H) rfl (fun w hw => c_toSurfaceS _ _ w (reA hw) hl) rfl (fun u H hu => ?_); have f1 := hu.form; obtain ⟨_, _, rfl⟩ := f1)) | apply s_step)) | (refine kStore ?_; (first | refine s_store1 _ rfl rfl gpA rfl (by rfl) ?_ | refine s_storeS _ rfl rfl gpA rfl rfl (by rfl) ?_ | refine s_storeS _ rfl rfl gpA rfl (ones_img oiA) (by rfl) ?_)) | refine s_boxS rfl rfl (fun b hb => ?_) | refine s_allocS rfl (fun b hb => ?_) | refine s_box1 rfl rfl rfl (fun b hb => ?_) | refine s_alloc1 rfl rfl (fun b hb => ?_) | refine s_buildSlice0 rfl (fun b hb => ?_) | refine s_buildSlice rfl rfl rfl rfl rfl (fun b hb => ?_) | apply s_step)) | (refine kG ?_; (first | refine s_gyes rfl rfl rfl ?_ | refine s_gno rfl rfl rfl rfl rfl ?_ | ((first | refine s_split_d rfl rfl (fun h => ?_) (fun h => ?_) | refine s_split_n rfl rfl (fun h => ?_) (fun h => ?_)) <;> (try (first | contradiction | (exfalso; omega)))) | refine s_split_nb rfl rfl (fun h => ?_) (fun h => ?_) | refine s_split rfl rfl (fun h => ?_) (fun h => ?_))) | refine l_then ?_ | (refine kC ?_; (first | refine c_seq ?_ | refine c_regionN rfl ?_ | refine c_ret ?_ | (refine kCond ?_; (first | refine c_cond_t rfl ?_ | refine c_cond_f rfl ?_ | ((first | refine c_cond_d rfl (fun h => ?_) (fun h => ?_) | refine c_cond_n rfl (fun h => ?_) (fun h => ?_)) <;> (try (first | contradiction | (exfalso; omega)))) | refine c_cond_nb rfl (fun h => ?_) (fun h => ?_) | refine c_cond rfl (fun h => ?_) (fun h => ?_))) | refine c_block ?_ | refine c_skip ?_ | refine c_exit ?_ | refine c_regionQN rfl rfl (by decide +kernel) ?_)) | apply s_stepQ | (refine kQG ?_; (first | refine s_gyesQ rfl rfl rfl ?_ | refine s_gnoQ rfl rfl rfl rfl rfl ?_ | ((first | refine s_splitQ_d rfl rfl (fun h => ?_) (fun h => ?_) | refine s_splitQ_n rfl rfl (fun h => ?_) (fun h => ?_)) <;> (try (first | contradiction | (exfalso; omega)))) | refine s_splitQ_nb rfl rfl (fun h => ?_) (fun h => ?_) | refine s_splitQ rfl rfl (fun h => ?_) (fun h => ?_))) | refine lQ_then ?_ | refine lQ_ends ?_ | (refine kE ?_; (first | refine e_then_r ?_ | refine e_block_r ?_ | refine e_then_n ?_ | refine e_then_x ?_ | refine e_block_n ?_ | refine e_block_x ?_ | refine e_block_y rfl ?_)) | refine l_ends ?_)
  all_goals (refine kE ?_; refine s_leaveSF rfl rfl rfl fwA (fun w hw => ?_))
  exact ⟨_, _, rfl, ⟨_, rfl, by assumption⟩, hw.toFresh (i := 0) rfl⟩
theorem c_eqScene (a c : DScene) (u v : Value) (w : World) (hu : RS eSurf w u a.ss) (hv : RS eSurf w v c.ss) : SYields Try.prog 60 #[vScene a u, vScene c v] (.bool (decide (a = c))) w := by
  (first | apply SYields.mk | apply SYieldsF.mk | skip); refine s_enter Try.func60 rfl Try.ntmps60 rfl ?_
  repeat' (first | exact rfl | (apply kO; (first | exact ov_pure rfl | (apply kOBin; (first | exact aBin)) | (apply kOCall; (first | (apply kCallF; (first | exact (ov_call rfl (fun w hw => c_eqSurfaceS _ _ _ _ w (reA hw) (reA hw))))) | (apply kCallB; (first | exact aBlt | exact aLenR)))) | (apply kOLoad; (first | exact aLdF | exact aLdR)) | exact ov_fieldAddr rfl | (apply kOIdx; (first | exact aIdx)) | exact aRest | exact aNew | exact (ov_field1 (ft := 37) rfl rfl rfl rfl))) | (refine kN ?_; (first | (refine kStore ?_; (first | refine s_store1 _ rfl rfl gpA rfl (by rfl) ?_ | refine s_storeS _ rfl rfl gpA rfl rfl (by rfl) ?_ | refine s_storeS _ rfl rfl gpA rfl (ones_img oiA) (by rfl) ?_)) | refine s_boxS rfl rfl (fun b hb => ?_) | refine s_allocS rfl (fun b hb => ?_) | refine s_box1 rfl rfl rfl (fun b hb => ?_) | refine s_alloc1 rfl rfl (fun b hb => ?_) | refine s_buildSlice0 rfl (fun b hb => ?_) | refine s_buildSlice rfl rfl rfl rfl rfl (fun b hb => ?_) | apply s_step)) | (refine kG ?_; (first | refine s_gyes rfl rfl rfl ?_ | refine s_gno rfl rfl rfl rfl rfl ?_ | ((first | refine s_split_d rfl rfl (fun h => ?_) (fun h => ?_) | refine s_split_n rfl rfl (fun h => ?_) (fun h => ?_)) <;> (try (first | contradiction | (exfalso; omega)))) | refine s_split_nb rfl rfl (fun h => ?_) (fun h => ?_) | refine s_split rfl rfl (fun h => ?_) (fun h => ?_))) | refine l_then ?_ | (refine kC ?_; (first | refine c_seq ?_ | refine c_regionN rfl ?_ | refine c_ret ?_ | (refine kCond ?_; (first | refine c_cond_t rfl ?_ | refine c_cond_f rfl ?_ | ((first | refine c_cond_d rfl (fun h => ?_) (fun h => ?_) | refine c_cond_n rfl (fun h => ?_) (fun h => ?_)) <;> (try (first | contradiction | (exfalso; omega)))) | refine c_cond_nb rfl (fun h => ?_) (fun h => ?_) | refine c_cond rfl (fun h => ?_) (fun h => ?_))) | refine c_block ?_ | refine c_skip ?_ | refine c_exit ?_ | refine c_regionQN rfl rfl (by decide +kernel) ?_)) | apply s_stepQ | (refine kQG ?_; (first | refine s_gyesQ rfl rfl rfl ?_ | refine s_gnoQ rfl rfl rfl rfl rfl ?_ | ((first | refine s_splitQ_d rfl rfl (fun h => ?_) (fun h => ?_) | refine s_splitQ_n rfl rfl (fun h => ?_) (fun h => ?_)) <;> (try (first | contradiction | (exfalso; omega)))) | refine s_splitQ_nb rfl rfl (fun h => ?_) (fun h => ?_) | refine s_splitQ rfl rfl (fun h => ?_) (fun h => ?_))) | refine lQ_then ?_ | refine lQ_ends ?_ | (refine kE ?_; (first | refine e_then_r ?_ | refine e_block_r ?_ | refine e_then_n ?_ | refine e_then_x ?_ | refine e_block_n ?_ | refine e_block_x ?_ | refine e_block_y rfl ?_)) | refine l_ends ?_)
  all_goals refine s_leave1 rfl rfl (fun w hw => ⟨?_, hw.below⟩)
  all_goals first | exact ret_false (fun e => by subst e; contradiction) | exact ret_true (DScene.eq (by omega) (by omega) (by omega) (by assumption))
end Go.Proofs.Ytakijgpoaeggnaa
/-
  Rules for scenes that the laws mark.
-/
set_option linter.unusedVariables false
namespace Go.Proofs.Ytakijgpoaeggnaa
open Go Sx
attribute [local irreducible] Exit.then Exit.inBlock bodyPost
theorem OVec.inv {k : Nat} {T : TypeId} {v : Value} {n : Nat} {xs : List Value} {H : SPiece} (h : OVec k T v n xs H) : (v = .slice none 0 0 ∧ n = 0 ∧ H = []) ∨ ∃ b cap r, v = .slice (some ⟨b, 0, none⟩) n cap ∧ H = [(b, srow (xs ++ r) T)] ∧ (xs ++ r).length = cap * k ∧ n ≤ cap ∧ cap ≤ maxLen := by
  cases h with
  | nil => exact .inl ⟨rfl, rfl, rfl⟩
  | blk b n cap xs r h1 h2 h3 h4 => exact .inr ⟨b, cap, r, rfl, rfl, h2, h3, h4⟩
/-- the inner slices stay where they are -/
def keepsDs (ds : Nat → Value) (n : Nat) (cells : List Value) : Prop := ∀ i, i < n → cells[i * 11 + 10]? = some (ds i)
def ecatF (Hs : Nat → SPiece) (i m : Nat) : SPiece := (List.range m).flatMap (fun t => Hs (i + t))
section
variable {P : Program} {n : Nat} {lo : SMut} {s : World} {ops : Array Oper} {Q : Exit → Act → World → Prop} {E : SEnv} {L : SHeap} {l : List Oper}
theorem c_regroup {c : Code} {L' : SHeap} (h : ∀ w, SSt lo s L w → SSt lo s L' w) (k : WPC P n lo s c Q E L') : WPC P n lo s c Q E L := by
  unfold WPC at *
  exact fun a w ha hw => k a w ha (h w hw)
end
theorem _root_.Sx.SSt.gone {lo : SMut} {s w : World} {L : SHeap} (h : SSt lo s L w) : SSt lo s [[], []] w := (h.sub (L' := []) (List.nil_sublist _)).nil0.nil0
section
variable {n : Nat} {lo : SMut} {s : World} {ops : Array Oper} {Q : Exit → Act → World → Prop} {E : SEnv} {L : SHeap} {dd : Nat} {ty : TypeId} {pos : String} {after : Array Edge} {rest : List Oper}
end
end Go.Proofs.Ytakijgpoaeggnaa
/-
  Rules for unsigned numbers, copies, slices; slices.Repeat of one number.
-/
set_option linter.unusedVariables false
namespace Go.Proofs.Ytakijgpoaeggnaa
open Go Sx
attribute [local irreducible] Exit.then Exit.inBlock bodyPost
theorem u64_in (i : Int) (h : 0 ≤ i ∧ i ≤ 18446744073709551615) : IntKind.u64.wrap i = i := by
  simp [IntKind.wrap, IntKind.bits, IntKind.signed]; omega
section
variable {P : Program} {n : Nat} {lo : SMut} {s : World} {E : SEnv} {L : SHeap} {d : Option Tmp} {ty : TypeId} {pos : String} {after : Array Edge} {g : Option (Nat × Bool)} {x y : Operand} {xt yt : TypeId} {i j : Int}
theorem ov_addU (q : Int) (hx : sval E x = some (.int .u64 i)) (hy : sval E y = some (.int .u64 j)) (h : i + j = q) (hq : 0 ≤ q ∧ q ≤ 18446744073709551615) : SOpV P n lo s E L ⟨d, .binOp .add xt x y yt, ty, pos, after, g⟩ (.int .u64 q) :=
  SOpV.of_run fun a ha w hw => by simp [execOp, eqGuard, binOp, Op.intArith, ha.sval hx, ha.sval hy, h, u64_in _ hq]
theorem ov_mulU (q : Int) (hx : sval E x = some (.int .u64 i)) (hy : sval E y = some (.int .u64 j)) (h : i * j = q) (hq : 0 ≤ q ∧ q ≤ 18446744073709551615) : SOpV P n lo s E L ⟨d, .binOp .mul xt x y yt, ty, pos, after, g⟩ (.int .u64 q) :=
  SOpV.of_run fun a ha w hw => by simp [execOp, eqGuard, binOp, Op.intArith, ha.sval hx, ha.sval hy, h, u64_in _ hq]
theorem ov_shrU {kj : IntKind} (q : Int) (hx : sval E x = some (.int .u64 i)) (hy : sval E y = some (.int kj j)) (hj : 0 ≤ j ∧ j ≤ 62) (hq : i / 2 ^ j.toNat = q) : SOpV P n lo s E L ⟨d, .binOp .shr xt x y yt, ty, pos, after, g⟩ (.int .u64 q) :=
  SOpV.of_run fun a ha w hw => by
    have h0 : ¬ j < 0 := by omega
    have h1 : min j.toNat (IntKind.bits .u64) = j.toNat := by simp [IntKind.bits]; omega
    have h2 : i.fdiv (2 ^ j.toNat) = i / 2 ^ j.toNat := Int.fdiv_eq_ediv_of_nonneg _ (Int.le_of_lt (Int.pow_pos (by omega)))
    simp [execOp, eqGuard, binOp, Op.shift, ha.sval hx, ha.sval hy, h0, h1, h2, hq]
theorem ov_andU (q : Int) (hx : sval E x = some (.int .u64 i)) (hy : sval E y = some (.int .u64 4294967295)) (hi : 0 ≤ i ∧ i ≤ 4294967295) (hq : i = q) : SOpV P n lo s E L ⟨d, .binOp .and xt x y yt, ty, pos, after, g⟩ (.int .u64 q) :=
  SOpV.of_run fun a ha w hw => by
    subst hq
    obtain ⟨m, rfl⟩ := Int.eq_ofNat_of_zero_le hi.1
    have hm : m < 2 ^ 32 := by omega
    have h1 : (BitVec.ofInt 64 (m : Int)).toNat = m := by rw [BitVec.toNat_ofInt]; omega
    have h2 : (BitVec.ofInt 64 4294967295).toNat = 2 ^ 32 - 1 := by decide
    have h3 : ((BitVec.ofInt 64 (m : Int) &&& BitVec.ofInt 64 4294967295).toNat : Int) = m := by
      rw [BitVec.toNat_and, h1, h2, Nat.and_two_pow_sub_one_eq_mod, Nat.mod_eq_of_lt hm]
    have : (execOp a.eval ⟨d, .binOp .and xt x y yt, ty, pos, after, g⟩).run P w = .ok (.value (.int .u64 (IntKind.u64.wrap ((BitVec.ofInt 64 (m : Int) &&& BitVec.ofInt 64 4294967295).toNat : Int)))) w := by
      simp only [execOp, eqGuard, binOp, Op.intBits, ha.sval hx, ha.sval hy]
      rfl
    rw [this, h3, u64_in _ (by omega)]
theorem ov_convU {src dst : TypeId} {sd : TypeDesc} {k : IntKind} [hs : SUnd P src sd] [hd : SUnd P dst (.int .u64)] (hx : sval E x = some (.int k i)) (h : 0 ≤ i ∧ i ≤ 18446744073709551615) :
    SOpV P n lo s E L ⟨d, .convert src dst x, ty, pos, after, g⟩ (.int .u64 i) :=
  SOpV.of_run fun a ha w hw => by
    have e : P.intKind dst = .u64 := by unfold Program.intKind; rw [hd.h]
    have h1 := run_convert_int (P := P) (w := w) src dst k i (by rw [hs.h]; rfl) (by rw [e]; exact hd.h)
    rw [e] at h1
    simp [execOp, ha.sval hx, h1, u64_in i h]
/-- s[:hi] of an own slice -/
theorem ov_sliceHi {t e : TypeId} {a : Option Addr} {m c : Nat} {z : Value} {kk by_ : Nat} {ik : IntKind} [hu : SUnd P t (.slice e)] [hi : SInf P e z kk by_] (hx : sval E x = some (.slice a m c)) (hy : sval E y = some (.int ik j)) (hj : 0 ≤ j ∧ j ≤ c) :
    SOpV P n lo s E L ⟨d, .slice t x none (some y) none, ty, pos, after, g⟩ (.slice a j.toNat c) :=
  SOpV.of_run fun aa ha w hw => by
    cases a with
    | none => simp [execOp, Instr.sliceAt, Instr.slice, Instr.sliceBounds, Instr.sliceBound, asIntOf, ha.sval hx, ha.sval hy, srun_und, srun_sizeOf, hj.1, hj.2]
    | some A =>
      have hA : A.add 0 = A := rfl
      simp [execOp, Instr.sliceAt, Instr.slice, Instr.sliceBounds, Instr.sliceBound, asIntOf, ha.sval hx, ha.sval hy, srun_und, srun_sizeOf, hj.1, hj.2, hA]
/-- s[lo:] of an own slice -/
theorem ov_sliceLo {t e : TypeId} {b o m c : Nat} {z : Value} {by_ : Nat} {ik : IntKind} [hu : SUnd P t (.slice e)] [hi : SInf P e z 1 by_] (hx : sval E x = some (.slice (some ⟨b, o, none⟩) m c)) (hy : sval E y = some (.int ik j)) (hj : 0 ≤ j ∧ j ≤ m ∧ j < c) :
    SOpV P n lo s E L ⟨d, .slice t x (some y) none none, ty, pos, after, g⟩ (.slice (some ⟨b, o + j.toNat, none⟩) (m - j.toNat) (c - j.toNat)) :=
  SOpV.of_run fun aa ha w hw => by
    have hc : ¬ c = j.toNat := by omega
    simp [execOp, Instr.sliceAt, Instr.slice, Instr.sliceBounds, Instr.sliceBound, asIntOf, ha.sval hx, ha.sval hy, srun_und, srun_sizeOf, hj.1, hj.2.1, hc, Addr.add_lit]
end
section
variable {P : Program} {n : Nat} {lo : SMut} {s : World} {ops : Array Oper} {Q : Exit → Act → World → Prop} {E : SEnv} {L : SHeap} {d : Nat} {ty : TypeId} {pos : String} {after : Array Edge} {rest : List Oper}
/-- copy into an own block of one-cell elements -/
theorem s_copyOwn (i : Nat) {dT sT e X : TypeId} {x y : Operand} {b o m c m2 c2 : Nat} {a : Addr} {cur cs : List Value} {T : TypeId} {z : Value} {by_ : Nat} [hu : SUnd P dT (.slice e)] [hi : SInf P e z 1 by_]
    (hx : sval E x = some (.slice (some ⟨b, o, none⟩) m c)) (hy : sval E y = some (.slice (some a) m2 c2)) (hL : getL L i = some [(b, srow cur T)]) (hn : cs.length = Nat.min m2 m) (hfit : o + cs.length ≤ cur.length) (h1 : oneCells cs = true)
    (hsrc : ∀ w, SSt lo s L w → ∀ j v, cs[j]? = some v → w.cell? (a.add j) = some v) (hd : Nat.blt d n = true)
    (kk : WPL P n lo s ops Q rest ((d, .int .i64 cs.length) :: E) (setL L i [(b, srow (cur.take o ++ cs ++ cur.drop (o + cs.length)) T)])) :
    WPL P n lo s ops Q (⟨some d, .call { callee := .builtin .copy, args := #[x, y], argTypes := #[dT, sT] }, X, pos, after, none⟩ :: rest) E L := by
  refine s_eff (E' := fun _ _ => []) (fun w u w' => u = .int .i64 cs.length ∧ w' = w.setRow b (cur.take o ++ cs ++ cur.drop (o + cs.length)).toArray) (fun aa w ha hw => ⟨_, _, ?_, rfl, rfl⟩) hd ?_
  · obtain ⟨ii, i1, i2, i3, i4⟩ := hi.out
    have hblk := (hw.blocks b _ (getL_flat hL (List.mem_singleton.2 rfl))).2
    have h := run_copy_row (P := P) w dT sT X e b o m c a m2 c2 cur.toArray T cs hu.h (by rw [i1]; simp [i3]) hblk hn (hsrc w hw) (by simpa using hfit) (oneCells_mem h1)
    simp [execOp, resolve, invoke, builtin, ha.sval hx, ha.sval hy, h, goInt]
  · rintro w u w' hw ⟨rfl, rfl⟩ aa ha
    exact (by unfold WPL at kk; exact kk aa _ ha (hw.srow hL))
end
theorem c_mul64 (q : Int) (w : World) (h : 0 ≤ q ∧ q ≤ 1000000) : SYields Try.prog 225 #[.int .u64 1, .int .u64 q] (.tuple #[.int .u64 0, .int .u64 q]) w := by
  (first | apply SYields.mk | apply SYieldsF.mk | skip); refine s_enter Try.func225 rfl Try.ntmps225 rfl ?_
  repeat' (first | exact rfl | (apply kO; (first | exact ov_pure rfl | (apply kOBin; (first | exact aBin | exact (ov_andU 1 rfl rfl (by omega) (by omega)) | exact (ov_andU q rfl rfl (by omega) (by omega)) | exact (ov_andU 0 rfl rfl (by omega) (by omega)) | exact (ov_shrU 0 rfl rfl (by omega) (by simp; try omega)))) | (apply kOCall; (first | (apply kCallB; (first | exact aBlt | exact aLenR)))) | (apply kOLoad; (first | exact aLdF | exact aLdR)) | exact ov_fieldAddr rfl | (apply kOIdx; (first | exact aIdx)) | exact aRest | exact (ov_mulU q rfl rfl (by omega) (by omega)) | exact (ov_mulU 0 rfl rfl (by omega) (by omega)) | exact (ov_addU 0 rfl rfl (by omega) (by omega)) | exact aNew | exact (ov_field1 (ft := 37) rfl rfl rfl rfl))) | (refine kN ?_; (first | (refine kStore ?_; (first | refine s_store1 _ rfl rfl gpA rfl (by rfl) ?_ | refine s_storeS _ rfl rfl gpA rfl rfl (by rfl) ?_ | refine s_storeS _ rfl rfl gpA rfl (ones_img oiA) (by rfl) ?_)) | refine s_boxS rfl rfl (fun b hb => ?_) | refine s_allocS rfl (fun b hb => ?_) | refine s_box1 rfl rfl rfl (fun b hb => ?_) | refine s_alloc1 rfl rfl (fun b hb => ?_) | refine s_buildSlice0 rfl (fun b hb => ?_) | refine s_buildSlice rfl rfl rfl rfl rfl (fun b hb => ?_) | apply s_step)) | (refine kG ?_; (first | refine s_gyes rfl rfl rfl ?_ | refine s_gno rfl rfl rfl rfl rfl ?_ | ((first | refine s_split_d rfl rfl (fun h => ?_) (fun h => ?_) | refine s_split_n rfl rfl (fun h => ?_) (fun h => ?_)) <;> (try (first | contradiction | (exfalso; omega)))) | refine s_split_nb rfl rfl (fun h => ?_) (fun h => ?_) | refine s_split rfl rfl (fun h => ?_) (fun h => ?_))) | refine l_then ?_ | (refine kC ?_; (first | refine c_seq ?_ | refine c_regionN rfl ?_ | refine c_ret ?_ | (refine kCond ?_; (first | refine c_cond_t rfl ?_ | refine c_cond_f rfl ?_ | ((first | refine c_cond_d rfl (fun h => ?_) (fun h => ?_) | refine c_cond_n rfl (fun h => ?_) (fun h => ?_)) <;> (try (first | contradiction | (exfalso; omega)))) | refine c_cond_nb rfl (fun h => ?_) (fun h => ?_) | refine c_cond rfl (fun h => ?_) (fun h => ?_))) | refine c_block ?_ | refine c_skip ?_ | refine c_exit ?_ | refine c_regionQN rfl rfl (by decide +kernel) ?_)) | apply s_stepQ | (refine kQG ?_; (first | refine s_gyesQ rfl rfl rfl ?_ | refine s_gnoQ rfl rfl rfl rfl rfl ?_ | ((first | refine s_splitQ_d rfl rfl (fun h => ?_) (fun h => ?_) | refine s_splitQ_n rfl rfl (fun h => ?_) (fun h => ?_)) <;> (try (first | contradiction | (exfalso; omega)))) | refine s_splitQ_nb rfl rfl (fun h => ?_) (fun h => ?_) | refine s_splitQ rfl rfl (fun h => ?_) (fun h => ?_))) | refine lQ_then ?_ | refine lQ_ends ?_ | (refine kE ?_; (first | refine e_then_r ?_ | refine e_block_r ?_ | refine e_then_n ?_ | refine e_then_x ?_ | refine e_block_n ?_ | refine e_block_x ?_ | refine e_block_y rfl ?_)) | refine l_ends ?_)
  all_goals exact s_leave2 rfl rfl rfl (fun w hw => ⟨rfl, hw.below⟩)
theorem c_mul (q : Int) (w : World) (h : 0 ≤ q ∧ q ≤ 1000000) : SYields Try.prog 216 #[.int .u64 1, .int .u64 q] (.tuple #[.int .u64 0, .int .u64 q]) w := by
  (first | apply SYields.mk | apply SYieldsF.mk | skip); refine s_enter Try.func216 rfl Try.ntmps216 rfl ?_
  repeat' (first | exact rfl | (apply kO; (first | exact ov_pure rfl | (apply kOBin; (first | exact aBin)) | (apply kOCall; (first | (apply kCallF; (first | exact (ov_call rfl (fun w hw => c_mul64 _ w (by omega))))) | (apply kCallB; (first | exact aBlt | exact aLenR)))) | (apply kOLoad; (first | exact aLdF | exact aLdR)) | exact ov_fieldAddr rfl | (apply kOIdx; (first | exact aIdx)) | exact aRest | exact aNew | exact (ov_field1 (ft := 37) rfl rfl rfl rfl))) | (refine kN ?_; (first | (refine kStore ?_; (first | refine s_store1 _ rfl rfl gpA rfl (by rfl) ?_ | refine s_storeS _ rfl rfl gpA rfl rfl (by rfl) ?_ | refine s_storeS _ rfl rfl gpA rfl (ones_img oiA) (by rfl) ?_)) | refine s_boxS rfl rfl (fun b hb => ?_) | refine s_allocS rfl (fun b hb => ?_) | refine s_box1 rfl rfl rfl (fun b hb => ?_) | refine s_alloc1 rfl rfl (fun b hb => ?_) | refine s_buildSlice0 rfl (fun b hb => ?_) | refine s_buildSlice rfl rfl rfl rfl rfl (fun b hb => ?_) | apply s_step)) | (refine kG ?_; (first | refine s_gyes rfl rfl rfl ?_ | refine s_gno rfl rfl rfl rfl rfl ?_ | ((first | refine s_split_d rfl rfl (fun h => ?_) (fun h => ?_) | refine s_split_n rfl rfl (fun h => ?_) (fun h => ?_)) <;> (try (first | contradiction | (exfalso; omega)))) | refine s_split_nb rfl rfl (fun h => ?_) (fun h => ?_) | refine s_split rfl rfl (fun h => ?_) (fun h => ?_))) | refine l_then ?_ | (refine kC ?_; (first | refine c_seq ?_ | refine c_regionN rfl ?_ | refine c_ret ?_ | (refine kCond ?_; (first | refine c_cond_t rfl ?_ | refine c_cond_f rfl ?_ | ((first | refine c_cond_d rfl (fun h => ?_) (fun h => ?_) | refine c_cond_n rfl (fun h => ?_) (fun h => ?_)) <;> (try (first | contradiction | (exfalso; omega)))) | refine c_cond_nb rfl (fun h => ?_) (fun h => ?_) | refine c_cond rfl (fun h => ?_) (fun h => ?_))) | refine c_block ?_ | refine c_skip ?_ | refine c_exit ?_ | refine c_regionQN rfl rfl (by decide +kernel) ?_)) | apply s_stepQ | (refine kQG ?_; (first | refine s_gyesQ rfl rfl rfl ?_ | refine s_gnoQ rfl rfl rfl rfl rfl ?_ | ((first | refine s_splitQ_d rfl rfl (fun h => ?_) (fun h => ?_) | refine s_splitQ_n rfl rfl (fun h => ?_) (fun h => ?_)) <;> (try (first | contradiction | (exfalso; omega)))) | refine s_splitQ_nb rfl rfl (fun h => ?_) (fun h => ?_) | refine s_splitQ rfl rfl (fun h => ?_) (fun h => ?_))) | refine lQ_then ?_ | refine lQ_ends ?_ | (refine kE ?_; (first | refine e_then_r ?_ | refine e_block_r ?_ | refine e_then_n ?_ | refine e_then_x ?_ | refine e_block_n ?_ | refine e_block_x ?_ | refine e_block_y rfl ?_)) | refine l_ends ?_)
  all_goals exact s_leave2 rfl rfl rfl (fun w hw => ⟨rfl, hw.below⟩)
def fillP (p : Int) (n j : Nat) : List Int := List.replicate j p ++ List.replicate (n - j) 0
theorem fillP_length (p : Int) {n j : Nat} (h : j ≤ n) : (fillP p n j).length = n := by simp [fillP]; omega
theorem fillP_copy (p : Int) {n j m : Nat} (hj : j + m ≤ n) : (ivals (fillP p n j)).take j ++ ivals (List.replicate m p) ++ (ivals (fillP p n j)).drop (j + (ivals (List.replicate m p)).length) = ivals (fillP p n (j + m)) := by
  have e1 : (ivals (fillP p n j)).take j = ivals (List.replicate j p) := by
    simp [fillP, ivals]
  have e2 : (ivals (fillP p n j)).drop (j + m) = ivals (List.replicate (n - (j + m)) 0) := by
    simp only [fillP, ivals, List.map_append, List.map_replicate]
    rw [List.drop_append, List.drop_of_length_le (by simp), List.nil_append, List.length_replicate, List.drop_replicate]
    congr 1; omega
  rw [ivals_length, List.length_replicate, e1, e2]
  simp [fillP, ivals, - List.append_assoc, List.replicate_append_replicate]
theorem fillP_one (p : Int) {n : Nat} : (List.replicate n (Value.int .i64 0)).take 0 ++ [Value.int .i64 p] ++ (List.replicate n (Value.int .i64 0)).drop (0 + [Value.int .i64 p].length) = ivals (fillP p n 1) := by
  simp [fillP, ivals]
theorem fillP_src (p : Int) {n j k m : Nat} {u : Value} (h : (ivals (List.replicate (min j k) p))[m]? = some u) : (ivals (fillP p n j))[m]? = some u := by
  simp only [ivals, fillP, List.map_append, List.map_replicate, List.getElem?_replicate] at h ⊢
  split at h
  · rw [List.getElem?_append_left (by simp; omega), List.getElem?_replicate, if_pos (by omega)]; exact h
  · cases h
theorem fillP_all (p : Int) (n : Nat) : fillP p n n = List.replicate n p := by simp [fillP]
theorem c_repeat (v : Value) (p q : Int) (w : World) (hv : RInts w v [p]) (hq : 1 ≤ q ∧ q ≤ 100000) : SYieldsF Try.prog 181 #[v, .int .i64 q] (fun u H => OInts 3 u (List.replicate q.toNat p) H) w := by
  have hv' := hv.form
  obtain ⟨a, c, rfl⟩ := hv'
  obtain ⟨b0, o0, rfl⟩ : ∃ b o, a = some ⟨b, o, none⟩ := by
    obtain ⟨a', c', he, hf⟩ := RRow.form hv
    obtain ⟨b, o, rfl⟩ := hf (by simp)
    cases he; exact ⟨b, o, rfl⟩
  have hs1 : ([p].length : Nat) = 1 := rfl
  rw [hs1]
  have hf0 := fillP_copy p (n := q.toNat) (j := 0) (m := 1) (by omega)
  (first | apply SYields.mk | apply SYieldsF.mk | skip); refine s_enter Try.func181 rfl Try.ntmps181 rfl ?_
  repeat' (first | exact rfl | (apply kO; (first | exact ov_pure rfl | (apply kOBin; (first | exact aBin | exact (ov_add rfl rfl (by rw [ivals_length, List.length_replicate]; omega)))) | (apply kOCall; (first | (apply kCallF; (first | exact (ov_call rfl (fun w hw => c_mul _ w (by omega))))) | (apply kCallB; (first | exact aBlt | exact aLenR)))) | (apply kOLoad; (first | exact aLdF | exact aLdR)) | exact ov_fieldAddr rfl | (apply kOIdx; (first | exact aIdx)) | exact aRest | exact (ov_convU rfl (by omega)) | exact (ov_gtr rfl rfl) | (apply kSlice; exact (ov_sliceHi rfl rfl (by omega))) | (apply kSlice; exact (ov_sliceLo rfl rfl (by omega))) | exact aNew | exact (ov_field1 (ft := 37) rfl rfl rfl rfl))) | (refine kN ?_; (first | (refine kCall ?_; (first | (refine s_copyOwn 0 (cs := [.int .i64 p]) rfl rfl rfl (by show 1 = min 1 q.toNat; omega) (by rw [List.length_replicate]; show 0 + 1 ≤ q.toNat; omega) rfl (fun w hw j u hu => RInts.src (hv.keep (hw.cells rfl)) j u (by simpa [ivals] using hu)) rfl ?_) | (refine s_copyOwn 0 (cs := ivals (List.replicate (min j (q.toNat - j)) p)) rfl rfl rfl (by rw [ivals_length, List.length_replicate, Int.toNat_natCast] <;> first | done | rfl) (by rw [ivals_length, ivals_length, List.length_replicate, fillP_length _ (by omega)]; omega) (oneCells_ivals _) (fun w hw m u hu => by rw [Addr.add_lit, Nat.zero_add]; exact hw.captured (i := 0) rfl m u (fillP_src p hu)) rfl ?_) | apply s_step)) | (refine kStore ?_; (first | refine s_store1 _ rfl rfl gpA rfl (by rfl) ?_ | refine s_storeS _ rfl rfl gpA rfl rfl (by rfl) ?_ | refine s_storeS _ rfl rfl gpA rfl (ones_img oiA) (by rfl) ?_)) | refine s_boxS rfl rfl (fun b hb => ?_) | refine s_allocS rfl (fun b hb => ?_) | refine s_box1 rfl rfl rfl (fun b hb => ?_) | refine s_alloc1 rfl rfl (fun b hb => ?_) | (refine kWMake ?_; (refine s_make1 rfl rfl rfl ⟨by omega, by omega, by omega⟩ (by omega) rfl (fun b hb => ?_))) | refine s_buildSlice0 rfl (fun b hb => ?_) | refine s_buildSlice rfl rfl rfl rfl rfl (fun b hb => ?_) | apply s_step)) | (refine kG ?_; (first | refine s_gyes rfl rfl rfl ?_ | refine s_gno rfl rfl rfl rfl rfl ?_ | ((first | refine s_split_d rfl rfl (fun h => ?_) (fun h => ?_) | refine s_split_n rfl rfl (fun h => ?_) (fun h => ?_)) <;> (try (first | contradiction | (exfalso; omega)))) | refine s_split_nb rfl rfl (fun h => ?_) (fun h => ?_) | refine s_split rfl rfl (fun h => ?_) (fun h => ?_))) | (refine kS ?_; (first | refine h_exec rfl ?_ | refine h_take_nil rfl rfl rfl ?_ | refine h_take_pick rfl rfl rfl ?_ | refine h_nil ?_ | refine h_alt ?_ ?_ | apply h_take)) | (refine kBack ?_; (first | refine h_back_last rfl ?_ | refine h_backN rfl subA ?_)) | refine l_then ?_ | (refine kC ?_; (first | (refine kReg 9 ?_; refine c_regionSubN (SPlan.take 0 (SPlan.take 1 (SPlan.take 2 (SPlan.take 3 (SPlan.take 4 (SPlan.take 5 (SPlan.take 6 (SPlan.run 7 (SPlan.take 8 (SPlan.take 9 SPlan.done)))))))))) none [false] rfl rfl rfl (by decide +kernel) ?_) | (refine c_loopV (ι := Nat) (fun j => 1 ≤ j ∧ j ≤ q.toNat) (fun j => [(8, .int .i64 (j : Int))]) (fun j => [[(b, srow (ivals (fillP p q.toNat j)) 3)]]) (fun j => q.toNat - j) 1 (by omega) rfl (fun _ => rfl) ⟨rfl, trivial⟩ (fun w hw => by have e := fillP_one p (n := q.toNat); rw [← e]; exact hw) (fun j hj => ?_)) | refine c_seq ?_ | refine c_regionN rfl ?_ | refine c_ret ?_ | (refine kCond ?_; (first | refine c_cond_t rfl ?_ | refine c_cond_f rfl ?_ | ((first | refine c_cond_d rfl (fun h => ?_) (fun h => ?_) | refine c_cond_n rfl (fun h => ?_) (fun h => ?_)) <;> (try (first | contradiction | (exfalso; omega)))) | refine c_cond_nb rfl (fun h => ?_) (fun h => ?_) | refine c_cond rfl (fun h => ?_) (fun h => ?_))) | refine c_block ?_ | refine c_skip ?_ | refine c_exit ?_ | refine c_regionQN rfl rfl (by decide +kernel) ?_)) | apply s_stepQ | (refine kQG ?_; (first | refine s_gyesQ rfl rfl rfl ?_ | refine s_gnoQ rfl rfl rfl rfl rfl ?_ | ((first | refine s_splitQ_d rfl rfl (fun h => ?_) (fun h => ?_) | refine s_splitQ_n rfl rfl (fun h => ?_) (fun h => ?_)) <;> (try (first | contradiction | (exfalso; omega)))) | refine s_splitQ_nb rfl rfl (fun h => ?_) (fun h => ?_) | refine s_splitQ rfl rfl (fun h => ?_) (fun h => ?_))) | refine lQ_then ?_ | refine lQ_ends ?_ | (refine kE ?_; (first | refine e_then_r ?_ | refine e_block_r ?_ | refine e_then_n ?_ | refine e_then_x ?_ | refine e_block_n ?_ | refine e_block_x ?_ | refine e_block_y rfl ?_)) | refine l_ends ?_)
  · refine e_round (j + min j (q.toNat - j)) ⟨by omega, by omega⟩ ⟨slook_to rfl (vint_to (by rw [ivals_length, List.length_replicate]; push_cast; omega)), (by repeat' first | exact trivial | refine ⟨rfl, ?_⟩)⟩ (fun w hw => ?_) (by omega)
    rw [show 0 + (j : Int).toNat = j by omega, fillP_copy p (by omega)] at hw
    exact hw
  · obtain rfl : j = q.toNat := by omega
    rw [fillP_all]
    refine s_leave1 rfl rfl (fun w hw => ⟨_, _, rfl, ?_, hw.toFresh (i := 0) rfl⟩)
    have := OInts.whole 3 b (List.replicate q.toNat p) (by rw [List.length_replicate]; unfold maxLen; omega)
    rw [List.length_replicate] at this
    exact this
end Go.Proofs.Ytakijgpoaeggnaa
/-
  Rules: a struct stored into an own slice; s[:hi] of rows that are read.
-/
set_option linter.unusedVariables false
namespace Go.Proofs.Ytakijgpoaeggnaa
open Go Sx
attribute [local irreducible] Exit.then Exit.inBlock bodyPost
theorem rrow_hi {w : World} {a : Option Addr} {m c k : Nat} {cells : Nat → List Value} (h : RRow w (.slice a m c) k m cells) {q : Nat} (hq : q ≤ m) : RRow w (.slice a q c) k q cells := by
  obtain ⟨ad, c', e, h2⟩ := h.form
  injection e with e1 e2 e3
  subst e1
  have hr : m ≤ c := h.room
  have hl := h.len
  exact ⟨⟨_, _, rfl, fun h0 => h2 (by omega)⟩, by omega, fun i hi => h.size i (by omega), fun i hi j u hu => by have := h.cell i (by omega) j u hu; cases a <;> exact this, show q ≤ c by omega⟩
theorem flat_set {α : Type} {c : α → List Value} {kk : Nat} (hc : ∀ a, (c a).length = kk) (l : List α) (r : List Value) {k : Nat} (hk : k < l.length) (a : α) :
    (l.flatMap c ++ r).take (k * kk) ++ c a ++ (l.flatMap c ++ r).drop (k * kk + kk) = (l.set k a).flatMap c ++ r := by
  have e : l = l.take k ++ l[k] :: l.drop (k + 1) := by rw [← List.drop_eq_getElem_cons hk, List.take_append_drop]
  have e1 : l.flatMap c ++ r = (l.take k).flatMap c ++ (c l[k] ++ ((l.drop (k + 1)).flatMap c ++ r)) := by
    conv => lhs; rw [e]
    rw [List.flatMap_append, List.flatMap_cons, List.append_assoc, List.append_assoc]
  have hl : ((l.take k).flatMap c).length = k * kk := by rw [flatMap_length hc, List.length_take, Nat.min_eq_left (by omega)]
  rw [e1, List.take_left' hl, ← List.drop_drop, List.drop_left' hl, List.drop_left' (hc _)]
  rw [List.set_eq_take_append_cons_drop, if_pos hk, List.flatMap_append, List.flatMap_cons]
  simp [List.append_assoc]
section
variable {P : Program} {n : Nat} {lo : SMut} {s : World} {ops : Array Oper} {Q : Exit → Act → World → Prop} {E : SEnv} {L : SHeap} {d : Nat} {ty : TypeId} {pos : String} {after : Array Edge} {rest : List Oper}
theorem s_setVs (i : Nat) {α : Type} {c : α → List Value} {kk : Nat} {T e : TypeId} {x y : Operand} {v z : Value} {by_ k : Nat} {l : List α} {a : α} {H : SPiece} [hi : SInf P T z kk by_]
    (hx : sval E x = some (.pointer (some ⟨(baseOf v).1, (baseOf v).2 + k * kk, none⟩))) (hy : sval E y = some (.agg (c a).toArray)) (hv : OVs c kk e v l H) (hL : getL L i = some H)
    (hc : ∀ a, (c a).length = kk) (h1 : oneCells (c a) = true) (hk : k < l.length)
    (cont : ∀ H', OVs c kk e v (l.set k a) H' → WPL P n lo s ops Q rest E (setL L i H')) : WPL P n lo s ops Q (⟨none, .store T x y, ty, pos, after, none⟩ :: rest) E L := by
  unfold OVs at hv
  generalize hxs : l.flatMap c = xs at hv
  generalize hnn : l.length = nn at hv
  cases hv with
  | nil => omega
  | blk b n' cap xs r h2 h3 h4 h5 =>
    subst hxs
    subst hnn
    simp only [baseOf, Nat.zero_add] at hx
    have hle : k * kk + kk ≤ (l.flatMap c ++ r).length := by
      rw [List.length_append, h2]
      have : (k + 1) * kk ≤ l.length * kk := Nat.mul_le_mul_right _ hk
      rw [Nat.succ_mul] at this; omega
    refine s_setRS i hx hy hL (hc a) h1 hle ?_
    rw [flat_set hc l r hk a]
    refine cont _ ?_
    have := OVec.blk (k := kk) (T := e) b l.length cap ((l.set k a).flatMap c) r (by rw [flatMap_length hc, List.length_set]) (by rw [List.length_append, flatMap_length hc, List.length_set]; rw [List.length_append, h2] at h3; exact h3) h4 h5
    unfold OVs
    rw [List.length_set]; exact this
end
end Go.Proofs.Ytakijgpoaeggnaa
/-
  Rules: pieces that are taken apart and put together; slices of structs that grow. Nothing of any one program.
-/
set_option linter.unusedVariables false
namespace Go.Proofs.Ytakijgpoaeggnaa
open Go Sx
theorem setL_flat {L : SHeap} {i : Nat} {H : SPiece} (h : getL L i = some H) : L.flatten.Perm (H ++ (setL L i []).flatten) := by
  obtain ⟨A, B, h1, h2⟩ := getL_split h
  rw [h1] at h2 ⊢
  rw [h2]
  simp only [List.flatten_append, List.flatten_cons, List.nil_append]
  exact List.perm_append_comm_assoc ..
theorem setL_put {L : SHeap} {i : Nat} {H H' : SPiece} (h : getL L i = some H) : (setL L i H').flatten.Perm (H' ++ (setL L i []).flatten) := by
  obtain ⟨A, B, h1, h2⟩ := getL_split h
  rw [h2, h2]
  simp only [List.flatten_append, List.flatten_cons, List.nil_append]
  exact List.perm_append_comm_assoc ..
theorem getL_set : ∀ {L : SHeap} {i : Nat} {H X : SPiece}, getL L i = some H → getL (setL L i X) i = some X
  | [], i, H, X, h => by simp [getL] at h
  | x :: r, 0, H, X, h => rfl
  | x :: r, i + 1, H, X, h => getL_set (L := r) (i := i) h
theorem getL_other : ∀ {L : SHeap} {i j : Nat} {X : SPiece}, i ≠ j → getL (setL L i X) j = getL L j
  | [], i, j, X, h => by cases i <;> rfl
  | x :: r, 0, 0, X, h => absurd rfl h
  | x :: r, 0, j + 1, X, h => rfl
  | x :: r, i + 1, 0, X, h => rfl
  | x :: r, i + 1, j + 1, X, h => getL_other (L := r) (i := i) (j := j) (fun e => h (by rw [e]))
theorem setL_twice : ∀ (L : SHeap) (i : Nat) (X Y : SPiece), setL (setL L i X) i Y = setL L i Y
  | [], i, X, Y => by cases i <;> rfl
  | x :: r, 0, X, Y => rfl
  | x :: r, i + 1, X, Y => by show x :: _ = x :: _; rw [setL_twice r i X Y]
theorem setL_comm : ∀ (L : SHeap) {i j : Nat} (X Y : SPiece), i ≠ j → setL (setL L i X) j Y = setL (setL L j Y) i X
  | [], i, j, X, Y, h => by cases i <;> cases j <;> rfl
  | x :: r, 0, 0, X, Y, h => absurd rfl h
  | x :: r, 0, j + 1, X, Y, h => rfl
  | x :: r, i + 1, 0, X, Y, h => rfl
  | x :: r, i + 1, j + 1, X, Y, h => by show x :: _ = x :: _; rw [setL_comm r X Y (fun e => h (by rw [e]))]
theorem nbeq {i j : Nat} (h : Nat.beq i j = false) : i ≠ j := fun e => by subst e; simp at h
section
variable {P : Program} {n : Nat} {lo : SMut} {s : World} {ops : Array Oper} {Q : Exit → Act → World → Prop} {E : SEnv} {L : SHeap} {l : List Oper}
theorem w_perm {L' : SHeap} (hp : L.flatten.Perm L'.flatten) (k : WPL P n lo s ops Q l E L') : WPL P n lo s ops Q l E L := by
  unfold WPL at *
  exact fun a w ha hw => k a w ha (hw.perm hp)
/-- piece i in two: the second part goes ahead -/
theorem w_split (i : Nat) {A B : SPiece} (h : getL L i = some (A ++ B)) (k : WPL P n lo s ops Q l E (B :: setL L i A)) : WPL P n lo s ops Q l E L := by
  refine w_perm ?_ k
  refine (setL_flat h).trans ?_
  rw [List.flatten_cons, List.append_assoc]
  refine (List.perm_append_comm_assoc ..).trans (List.Perm.append_left _ (setL_put h).symm)
end
/-! ### rows with their inner slices -/
section
variable {α : Type} {e : SElem α}
/-- a struct, its inner slice, the piece behind it -/
abbrev ETri (α : Type) := α × Value × SPiece
def tcells (e : SElem α) (T : List (ETri α)) : List Value := T.flatMap (fun t => e.cells t.1 t.2.1)
def tpiece (T : List (ETri α)) : SPiece := T.flatMap (fun t => t.2.2)
theorem tcells_length (e : SElem α) : ∀ T : List (ETri α), (tcells e T).length = T.length * e.k
  | [] => by simp [tcells]
  | t :: T => by
    have := tcells_length e T
    unfold tcells at this ⊢
    rw [List.flatMap_cons, List.length_append, e.klen, this, List.length_cons, Nat.succ_mul, Nat.add_comm]
theorem tcells_append (e : SElem α) (A B : List (ETri α)) : tcells e (A ++ B) = tcells e A ++ tcells e B := List.flatMap_append
theorem tpiece_append (A B : List (ETri α)) : tpiece (A ++ B) = tpiece A ++ tpiece B := List.flatMap_append
theorem tcells_one (e : SElem α) (t : ETri α) : tcells e [t] = e.cells t.1 t.2.1 := by simp [tcells]
theorem tpiece_one (t : ETri α) : tpiece [t] = t.2.2 := by simp [tpiece]
theorem tcells_cons (e : SElem α) (t : ETri α) (T : List (ETri α)) : tcells e (t :: T) = e.cells t.1 t.2.1 ++ tcells e T := List.flatMap_cons
theorem tpiece_cons (t : ETri α) (T : List (ETri α)) : tpiece (t :: T) = t.2.2 ++ tpiece T := List.flatMap_cons
/-- what is owned, as a list of triples -/
theorem _root_.Sx.OElems.tri {U : TypeId} {v : Value} {l : List α} {H : SPiece} (h : OElems e U v l H) :
    ∃ (T : List (ETri α)) (H0 G : SPiece), T.map (·.1) = l ∧ OVec e.k U v T.length (tcells e T) H0 ∧ (∀ t ∈ T, e.own t.2.1 t.1 t.2.2) ∧ H = H0 ++ (tpiece T ++ G) := by
  obtain ⟨ds, H0, Hs, G, h1, h2, rfl⟩ := h
  refine ⟨(List.range l.length).map (fun i => (l.getD i e.dflt, ds i, Hs i)), H0, G, ?_, ?_, ?_, ?_⟩
  · apply List.ext_getElem?
    intro i
    by_cases hi : i < l.length
    · simp [hi]
    · simp [hi]
  · rw [List.length_map, List.length_range]
    have : tcells e ((List.range l.length).map (fun i => (l.getD i e.dflt, ds i, Hs i))) = erows e l ds l.length := by
      unfold tcells erows; rw [List.flatMap_map]
    rw [this]; exact h1
  · intro t ht
    obtain ⟨i, hi, rfl⟩ := List.mem_map.1 ht
    exact h2 i (List.mem_range.1 hi)
  · have : tpiece ((List.range l.length).map (fun i => (l.getD i e.dflt, ds i, Hs i))) = ecat Hs l.length := by
      unfold tpiece ecat; rw [List.flatMap_map]
    rw [this]
theorem flatMap_get {β γ : Type} (f : β → List γ) (d : β) : ∀ l : List β, (List.range l.length).flatMap (fun i => f (l.getD i d)) = l.flatMap f
  | [] => rfl
  | x :: l => by
    have := flatMap_get f d l
    rw [List.length_cons, List.range_succ_eq_map, List.flatMap_cons, List.flatMap_cons, List.flatMap_map, ← this]
    rfl
theorem _root_.Sx.OElems.ofTri {U : TypeId} {v : Value} {T : List (ETri α)} {H0 G : SPiece} (h1 : OVec e.k U v T.length (tcells e T) H0) (h2 : ∀ t ∈ T, e.own t.2.1 t.1 t.2.2) : OElems e U v (T.map (·.1)) (H0 ++ (tpiece T ++ G)) := by
  let d : ETri α := (e.dflt, undef, [])
  have hg : ∀ i, (T.map (·.1)).getD i e.dflt = (T.getD i d).1 := fun i => by
    rw [List.getD_eq_getElem?_getD, List.getD_eq_getElem?_getD, List.getElem?_map]
    cases T[i]? <;> rfl
  refine ⟨fun i => (T.getD i d).2.1, H0, fun i => (T.getD i d).2.2, G, ?_, fun i hi => ?_, ?_⟩
  · rw [List.length_map]
    have : erows e (T.map (·.1)) (fun i => (T.getD i d).2.1) T.length = tcells e T := by
      unfold erows tcells
      rw [← flatMap_get (fun t : ETri α => e.cells t.1 t.2.1) d T]
      exact congrArg (fun f => (List.range T.length).flatMap f) (funext fun i => by rw [hg i])
    rw [this]; exact h1
  · rw [List.length_map] at hi
    rw [hg i]
    have : T.getD i d ∈ T := by rw [List.getD_eq_getElem?_getD, List.getElem?_eq_getElem hi]; exact List.getElem_mem hi
    exact h2 _ this
  · rw [List.length_map]
    have : ecat (fun i => (T.getD i d).2.2) T.length = tpiece T := flatMap_get (fun t : ETri α => t.2.2) d T
    rw [this]
theorem _root_.Sx.OElems.nil {U : TypeId} : OElems e U (.slice none 0 0) ([] : List α) [] := OElems.ofTri (T := []) (G := []) OVec.nil (fun t h => by cases h)
theorem _root_.Sx.OElems.one {U : TypeId} {v : Value} {l : List α} {H : SPiece} (h : OElems e U v l H) : v.oneCell' = true := by
  obtain ⟨a, c, rfl⟩ := h.form; rfl
end
theorem perm5 {α : Type} (a g h q m : List α) : ((a ++ g) ++ (h ++ (q ++ m))).Perm ((q ++ (a ++ h ++ g)) ++ m) := by
  simp only [List.append_assoc]
  refine (List.Perm.append_left a ?_).trans (List.perm_append_comm_assoc a q _)
  refine (List.perm_append_comm_assoc g h _).trans ((List.Perm.append_left h (List.perm_append_comm_assoc g q m)).trans (List.perm_append_comm_assoc h q _))
theorem take_getD {α : Type} {l : List α} {j : Nat} (d : α) (h : j < l.length) : l.take (j + 1) = l.take j ++ [l.getD j d] := by
  rw [List.take_add_one, List.getElem?_eq_getElem h, List.getD_eq_getElem?_getD, List.getElem?_eq_getElem h]; rfl
section
variable {P : Program} {n : Nat} {lo : SMut} {s : World} {ops : Array Oper} {Q : Exit → Act → World → Prop} {E : SEnv} {L : SHeap} {d : Nat} {ty : TypeId} {pos : String} {after : Array Edge} {rest : List Oper}
/-- append of a literal of one struct to an own slice of structs: piece i; the literal's block is piece i2; what the struct holds is piece i3 -/
theorem s_appendE (i i2 i3 : Nat) {α : Type} {el : SElem α} {t e : TypeId} {x y : Operand} {v z : Value} {by_ b2 : Nat} {l : List α} {a : α} {dv : Value} {H Ha : SPiece} {X U : TypeId} [hu : SUnd P t (.slice e)] [hinf : SInf P e z el.k by_]
    (hx : sval E x = some v) (hy : sval E y = some (.slice (some ⟨b2, 0, none⟩) 1 1)) (hv : OElems el e v l H) (hL : getL L i = some H) (hL2 : getL L i2 = some [(b2, srow (el.cells a dv) U)])
    (ha : el.own dv a Ha) (hL3 : getL L i3 = some Ha) (h12 : Nat.beq i i2 = false) (h13 : Nat.beq i i3 = false)
    (h1 : oneCells (el.cells a dv) = true) (hz : z.cells.size = el.k) (hk0 : 0 < el.k) (hb : l.length + 1 ≤ 100000000) (hby : by_ ≤ 1024) (hd : Nat.blt d n = true)
    (k : ∀ v' H', OElems el e v' (l ++ [a]) H' → WPL P n lo s ops Q rest ((d, v') :: E) (setL (setL L i H') i3 [])) :
    WPL P n lo s ops Q (⟨some d, .call { callee := .builtin .append, args := #[x, y], argTypes := #[t, t] }, X, pos, after, none⟩ :: rest) E L := by
  obtain ⟨T, H0, G, rfl, o1, o2, rfl⟩ := hv.tri
  have hmul : (T.length + 1) * by_ ≤ 100000000 * 1024 := Nat.mul_le_mul (by simpa using hb) hby
  have hn2 := nbeq h12
  have hn3 := nbeq h13
  refine w_split i hL ?_
  have g0 : getL (setL L i H0) i = some H0 := getL_set hL
  refine s_append (i + 1) (ys := el.cells a dv) (m := 1) hx hy o1 (show getL (_ :: setL L i H0) (i + 1) = some H0 from g0) hz hk0 (by rw [el.klen, Nat.one_mul]) h1 (fun w hw => ⟨_, _, rfl, fun j q hj => ?_⟩) (by omega) (by simp at hb; omega) hd (fun v' H0' h => ?_)
  · rw [Addr.add_lit, Nat.zero_add]
    exact hw.captured (i := i2 + 1) (show getL (_ :: setL L i H0) (i2 + 1) = _ by show getL (setL L i H0) i2 = _; rw [getL_other hn2]; exact hL2) j q hj
  · show WPL P n lo s ops Q rest _ ((tpiece T ++ G) :: setL (setL L i H0) i H0')
    rw [setL_twice]
    have o3 : OElems el e v' ((T ++ [(a, dv, Ha)]).map (·.1)) (H0' ++ (tpiece (T ++ [(a, dv, Ha)]) ++ G)) := OElems.ofTri (by rw [tcells_append, tcells_one, List.length_append]; exact h) (fun t ht => by
      rcases List.mem_append.1 ht with ht | ht
      · exact o2 t ht
      · rw [List.mem_singleton] at ht; subst ht; exact ha)
    rw [List.map_append] at o3
    refine w_perm ?_ (k v' _ o3)
    rw [tpiece_append, tpiece_one]
    have hLi : getL (setL L i3 []) i = some (H0 ++ (tpiece T ++ G)) := by rw [getL_other (Ne.symm hn3)]; exact hL
    have g3 : getL (setL L i H0') i3 = some Ha := by rw [getL_other hn3]; exact hL3
    have e1 := setL_flat g3
    rw [setL_comm L _ _ hn3] at e1 ⊢
    have e2 := setL_put (H' := H0') hLi
    have e3 := setL_put (H' := H0' ++ (tpiece T ++ Ha ++ G)) hLi
    rw [List.flatten_cons]
    exact (List.Perm.append_left _ (e1.trans (List.Perm.append_left _ e2))).trans ((perm5 _ _ _ _ _).trans e3.symm)
end
end Go.Proofs.Ytakijgpoaeggnaa
/-
  Contracts: the laws' own helpers on regions that are arguments.
-/
set_option linter.unusedVariables false
namespace Go.Proofs.Ytakijgpoaeggnaa
open Go Sx Go.ChangeShapes Go.WideShapes Go.ChangeAt Go.RowKit
attribute [local irreducible] Exit.then Exit.inBlock bodyPost
def eReg : SElem (List DRect) where
  k := 1
  dflt := []
  cells := fun _ d => [d]
  klen := fun _ _ => rfl
  rd := fun w d l => RRects w d l
  own := fun d l H => ORects d l H
  keep := fun h hw => RVs.keep h hw
  reads := fun h hw => ORects.rd h hw
theorem eReg_dflt : eReg.dflt = [] := rfl
theorem RRects.one {w : World} {v : Value} {l : List DRect} (h : RRects w v l) : v.oneCell' = true := by
  obtain ⟨a, q, rfl⟩ := h.form; rfl
theorem open_rect {W : World} {cs : List Value} (h : SRd Try.prog W 199 cs) : ∃ r : DRect, cs = cRect r := by
  obtain ⟨l, q⟩ := h.struct
  obtain ⟨x0, g0, _⟩ := (SRd.sub q 0 0 3 rfl).int
  obtain ⟨x1, g1, _⟩ := (SRd.sub q 1 1 3 rfl).int
  obtain ⟨x2, g2, _⟩ := (SRd.sub q 2 2 3 rfl).int
  obtain ⟨x3, g3, _⟩ := (SRd.sub q 3 3 3 rfl).int
  exact ⟨⟨x0, x1, x2, x3⟩, cells_eq l rfl (fun k hk => match k, hk with | 0, _ => take1 g0 | 1, _ => take1 g1 | 2, _ => take1 g2 | 3, _ => take1 g3 | k + 4, hk => absurd hk (by omega))⟩
theorem open_rects {W : World} {v : Value} {n : Nat} {rows : Nat → List Value} (hr : RRow W v 4 n rows) (h : ∀ i, i < n → ∃ r : DRect, rows i = cRect r) : ∃ l, RRects W v l := by
  obtain ⟨l, hl, hlr⟩ := rows_list (fun cs (r : DRect) => cs = cRect r) DRect.zero n rows h
  exact ⟨l, hr.congr hl (fun i hi => (hlr i hi).symm)⟩
theorem open_region {W : World} {cs : List Value} (h : SRd Try.prog W 173 cs) : ∃ (l : List DRect) (v : Value), cs = [v] ∧ RRects W v l := by
  obtain ⟨l, q⟩ := h.struct
  obtain ⟨v, n, rows, g0, hr, hel⟩ := (SRd.sub q 0 0 171 rfl).slice (by decide)
  obtain ⟨ss, he⟩ := open_rects hr (fun i hi => open_rect (hel i hi))
  exact ⟨ss, v, cells_eq l rfl (fun k hk => match k, hk with | 0, _ => take1 g0 | k + 1, hk => absurd hk (by omega)), he⟩
theorem c_toRect (r : DRect) (W : World) : SYields Try.prog 222 #[vRect r] (vRect r) W := by
  (first | apply SYields.mk | apply SYieldsF.mk | skip); refine s_enter Try.func222 rfl Try.ntmps222 rfl ?_
  repeat' (first | exact rfl | (apply kO; (first | exact ov_pure rfl | (apply kOBin; (first | exact aBin)) | (apply kOCall; (first | (apply kCallB; (first | exact aBlt | exact aLenR)))) | (apply kOLoad; (first | exact aLdF | exact aLdR)) | exact ov_fieldAddr rfl | (apply kOIdx; (first | exact aIdx)) | exact aRest | exact aNew | exact (ov_field1 (ft := 37) rfl rfl rfl rfl))) | (refine kN ?_; (first | (refine kStore ?_; (first | refine s_store1 _ rfl rfl gpA rfl (by rfl) ?_ | refine s_storeS _ rfl rfl gpA rfl rfl (by rfl) ?_ | refine s_storeS _ rfl rfl gpA rfl (ones_img oiA) (by rfl) ?_)) | refine s_boxS rfl rfl (fun b hb => ?_) | refine s_allocS rfl (fun b hb => ?_) | refine s_box1 rfl rfl rfl (fun b hb => ?_) | refine s_alloc1 rfl rfl (fun b hb => ?_) | refine s_buildSlice0 rfl (fun b hb => ?_) | refine s_buildSlice rfl rfl rfl rfl rfl (fun b hb => ?_) | apply s_step)) | (refine kG ?_; (first | refine s_gyes rfl rfl rfl ?_ | refine s_gno rfl rfl rfl rfl rfl ?_ | ((first | refine s_split_d rfl rfl (fun h => ?_) (fun h => ?_) | refine s_split_n rfl rfl (fun h => ?_) (fun h => ?_)) <;> (try (first | contradiction | (exfalso; omega)))) | refine s_split_nb rfl rfl (fun h => ?_) (fun h => ?_) | refine s_split rfl rfl (fun h => ?_) (fun h => ?_))) | refine l_then ?_ | (refine kC ?_; (first | refine c_seq ?_ | refine c_regionN rfl ?_ | refine c_ret ?_ | (refine kCond ?_; (first | refine c_cond_t rfl ?_ | refine c_cond_f rfl ?_ | ((first | refine c_cond_d rfl (fun h => ?_) (fun h => ?_) | refine c_cond_n rfl (fun h => ?_) (fun h => ?_)) <;> (try (first | contradiction | (exfalso; omega)))) | refine c_cond_nb rfl (fun h => ?_) (fun h => ?_) | refine c_cond rfl (fun h => ?_) (fun h => ?_))) | refine c_block ?_ | refine c_skip ?_ | refine c_exit ?_ | refine c_regionQN rfl rfl (by decide +kernel) ?_)) | apply s_stepQ | (refine kQG ?_; (first | refine s_gyesQ rfl rfl rfl ?_ | refine s_gnoQ rfl rfl rfl rfl rfl ?_ | ((first | refine s_splitQ_d rfl rfl (fun h => ?_) (fun h => ?_) | refine s_splitQ_n rfl rfl (fun h => ?_) (fun h => ?_)) <;> (try (first | contradiction | (exfalso; omega)))) | refine s_splitQ_nb rfl rfl (fun h => ?_) (fun h => ?_) | refine s_splitQ rfl rfl (fun h => ?_) (fun h => ?_))) | refine lQ_then ?_ | refine lQ_ends ?_ | (refine kE ?_; (first | refine e_then_r ?_ | refine e_block_r ?_ | refine e_then_n ?_ | refine e_then_x ?_ | refine e_block_n ?_ | refine e_block_x ?_ | refine e_block_y rfl ?_)) | refine l_ends ?_)
  all_goals (refine kE ?_; refine s_leaveSF rfl rfl rfl fwA (fun w hw => ?_))
  all_goals exact ⟨rfl, hw.below⟩
theorem rzero_set (b : Nat) {l : List DRect} {j : Nat} (h : j < l.length) : (l.take j ++ List.replicate (l.length - j) DRect.zero).set j (l.getD j DRect.zero) = l.take (j + 1) ++ List.replicate (l.length - (j + 1)) DRect.zero := by
  rw [List.set_append_right _ _ (by rw [List.length_take]; omega), List.length_take, show j - min j l.length = 0 by omega, show l.length - j = (l.length - (j + 1)) + 1 by omega, List.replicate_succ, List.set_cons_zero, take_getD DRect.zero h, List.append_assoc]; rfl
theorem rzero_cells : ∀ n : Nat, (List.replicate n [Value.int .i64 0, .int .i64 0, .int .i64 0, .int .i64 0]).flatten = (List.replicate n DRect.zero).flatMap cRect
  | 0 => rfl
  | n + 1 => by rw [List.replicate_succ, List.flatten_cons, rzero_cells n, List.replicate_succ, List.flatMap_cons]; rfl
set_option maxHeartbeats 4000000 in
theorem c_toRectS (v : Value) (l : List DRect) (W : World) (hv : RRects W v l) (hl : l.length ≤ 1048576) : SYieldsF Try.prog 214 #[v] (fun u H => ORects u l H) W := by
  have hln : ∀ j, j ≤ l.length → (l.take j ++ List.replicate (l.length - j) DRect.zero).length = l.length := fun j hj => by simp; omega
  (first | apply SYields.mk | apply SYieldsF.mk | skip); refine s_enter Try.func214 rfl Try.ntmps214 rfl ?_
  repeat' (first | exact rfl | (apply kO; (first | exact ov_pure rfl | (apply kOBin; (first | exact aBin)) | (apply kOCall; (first | (apply kCallF; (first | exact (ov_call rfl (fun w hw => c_toRect _ w)))) | (apply kCallB; (first | exact aBlt | exact (ov_lenR (fun w hw => RRow.keep hv (hw.cells rfl)) rfl) | exact aLenR)))) | (apply kOLoad; (first | exact (ov_ldRZ (fun w hw => RRow.keep hv (hw.cells rfl)) rfl rfl (by omega) rfl) | exact aLdF | exact aLdR)) | exact ov_fieldAddr rfl | (apply kOIdx; (first | exact (ov_idxR (fun w hw => RRow.keep hv (hw.cells rfl)) rfl rfl (by omega)) | exact aIdx)) | exact aRest | exact aNew | exact (ov_field1 (ft := 37) rfl rfl rfl rfl))) | (refine kN ?_; (first | (refine kStore ?_; (first | (refine s_setVs _ (v := .slice (some ⟨b, 0, none⟩) l.length l.length) (c := cRect) (kk := 4) (a := l.getD j.1 DRect.zero) rfl rfl (by assumption) gpA (fun _ => rfl) rfl (by rw [hln _ hj1]; omega) (fun H' hu => ?_)) | refine s_store1 _ rfl rfl gpA rfl (by rfl) ?_ | refine s_storeS _ rfl rfl gpA rfl rfl (by rfl) ?_ | refine s_storeS _ rfl rfl gpA rfl (ones_img oiA) (by rfl) ?_)) | refine s_boxS rfl rfl (fun b hb => ?_) | refine s_allocS rfl (fun b hb => ?_) | refine s_box1 rfl rfl rfl (fun b hb => ?_) | refine s_alloc1 rfl rfl (fun b hb => ?_) | (refine kWMake ?_; (refine s_makeS rfl rfl rfl (by decide) ⟨by omega, by omega, by omega⟩ (by omega) rfl (fun b hb => ?_))) | refine s_buildSlice0 rfl (fun b hb => ?_) | refine s_buildSlice rfl rfl rfl rfl rfl (fun b hb => ?_) | apply s_step)) | (refine kG ?_; (first | refine s_gyes rfl rfl rfl ?_ | refine s_gno rfl rfl rfl rfl rfl ?_ | ((first | refine s_split_d rfl rfl (fun h => ?_) (fun h => ?_) | refine s_split_n rfl rfl (fun h => ?_) (fun h => ?_)) <;> (try (first | contradiction | (exfalso; omega)))) | refine s_split_nb rfl rfl (fun h => ?_) (fun h => ?_) | refine s_split rfl rfl (fun h => ?_) (fun h => ?_))) | refine l_then ?_ | (refine kC ?_; (first | (refine c_loopV (ι := Nat × SPiece) (fun j => j.1 ≤ l.length ∧ ORects (.slice (some ⟨b, 0, none⟩) l.length l.length) (l.take j.1 ++ List.replicate (l.length - j.1) DRect.zero) j.2) (fun j => [(4, .int .i64 (j.1 : Int))]) (fun j => [j.2]) (fun j => l.length - j.1) (0, _) ⟨by dsimp only; omega, by dsimp only; rw [List.take_zero, List.nil_append, Nat.sub_zero]; have := OVs.whole (c := cRect) (k := 4) (T := 73) (fun _ => rfl) b (List.replicate l.length DRect.zero) (by rw [List.length_replicate]; unfold maxLen; omega); rw [List.length_replicate] at this; exact this⟩ rfl (fun _ => rfl) ⟨rfl, trivial⟩ (fun w hw => by rw [← rzero_cells]; simpa using hw) (fun j hj => ?_); obtain ⟨hj1, hj2⟩ := hj) | refine c_seq ?_ | refine c_regionN rfl ?_ | refine c_ret ?_ | (refine kCond ?_; (first | refine c_cond_t rfl ?_ | refine c_cond_f rfl ?_ | ((first | refine c_cond_d rfl (fun h => ?_) (fun h => ?_) | refine c_cond_n rfl (fun h => ?_) (fun h => ?_)) <;> (try (first | contradiction | (exfalso; omega)))) | refine c_cond_nb rfl (fun h => ?_) (fun h => ?_) | refine c_cond rfl (fun h => ?_) (fun h => ?_))) | refine c_block ?_ | refine c_skip ?_ | refine c_exit ?_ | refine c_regionQN rfl rfl (by decide +kernel) ?_)) | apply s_stepQ | (refine kQG ?_; (first | refine s_gyesQ rfl rfl rfl ?_ | refine s_gnoQ rfl rfl rfl rfl rfl ?_ | ((first | refine s_splitQ_d rfl rfl (fun h => ?_) (fun h => ?_) | refine s_splitQ_n rfl rfl (fun h => ?_) (fun h => ?_)) <;> (try (first | contradiction | (exfalso; omega)))) | refine s_splitQ_nb rfl rfl (fun h => ?_) (fun h => ?_) | refine s_splitQ rfl rfl (fun h => ?_) (fun h => ?_))) | refine lQ_then ?_ | refine lQ_ends ?_ | (refine kE ?_; (first | refine e_then_r ?_ | refine e_block_r ?_ | refine e_then_n ?_ | refine e_then_x ?_ | refine e_block_n ?_ | refine e_block_x ?_ | refine e_block_y rfl ?_)) | refine l_ends ?_)
  · rw [Int.toNat_natCast, rzero_set b (by omega)] at hu
    exact e_round (j.1 + 1, H') ⟨by dsimp only; omega, hu⟩ ⟨rfl, (by repeat' first | exact trivial | refine ⟨rfl, ?_⟩)⟩ (fun w hw => hw) (by dsimp only; omega)
  · rw [show j.1 = l.length by omega, List.take_length, Nat.sub_self, List.replicate_zero, List.append_nil] at hj2
    exact s_leave1 rfl rfl (fun w hw => ⟨_, _, rfl, hj2, hw.toFresh (H := j.2) gpA⟩)
theorem c_toRegion (v : Value) (l : List DRect) (W : World) (hv : RRects W v l) (hl : l.length ≤ 1048576) : SYieldsF Try.prog 176 #[vReg v] (fun u H => OReg u l H) W := by
  (first | apply SYields.mk | apply SYieldsF.mk | skip); refine s_enter Try.func176 rfl Try.ntmps176 rfl ?_
  repeat' (first | exact rfl | (apply kO; (first | exact ov_pure rfl | (apply kOBin; (first | exact aBin)) | (apply kOCall; (first | (apply kCallB; (first | exact aBlt | exact aLenR)))) | (apply kOLoad; (first | exact aLdF | exact aLdR)) | exact ov_fieldAddr rfl | (apply kOIdx; (first | exact aIdx)) | exact aRest | exact aNew | exact (ov_field1 (ft := 37) rfl rfl rfl rfl))) | (refine kN ?_; (first | (refine kCall ?_; (first | (refine kWFn 214 ?_; (refine s_callF (fun u H => ORects u l H) rfl (fun w hw => c_toRectS _ _ w (RVs.keep hv (hw.cells rfl)) hl) rfl (fun u H hu => ?_); have f1 := hu.form; obtain ⟨_, _, rfl⟩ := f1)) | apply s_step)) | (refine kStore ?_; (first | (refine s_storeS _ rfl rfl gpA rfl (ones_cons (OVs.one (by assumption)) rfl) (by rfl) ?_) | (refine s_store1 _ rfl rfl gpA (OVs.one (by assumption)) (by rfl) ?_) | refine s_store1 _ rfl rfl gpA rfl (by rfl) ?_ | refine s_storeS _ rfl rfl gpA rfl rfl (by rfl) ?_ | refine s_storeS _ rfl rfl gpA rfl (ones_img oiA) (by rfl) ?_)) | refine s_boxS rfl rfl (fun b hb => ?_) | refine s_allocS rfl (fun b hb => ?_) | refine s_box1 rfl rfl rfl (fun b hb => ?_) | refine s_alloc1 rfl rfl (fun b hb => ?_) | refine s_buildSlice0 rfl (fun b hb => ?_) | refine s_buildSlice rfl rfl rfl rfl rfl (fun b hb => ?_) | apply s_step)) | (refine kG ?_; (first | refine s_gyes rfl rfl rfl ?_ | refine s_gno rfl rfl rfl rfl rfl ?_ | ((first | refine s_split_d rfl rfl (fun h => ?_) (fun h => ?_) | refine s_split_n rfl rfl (fun h => ?_) (fun h => ?_)) <;> (try (first | contradiction | (exfalso; omega)))) | refine s_split_nb rfl rfl (fun h => ?_) (fun h => ?_) | refine s_split rfl rfl (fun h => ?_) (fun h => ?_))) | refine l_then ?_ | (refine kC ?_; (first | refine c_seq ?_ | refine c_regionN rfl ?_ | refine c_ret ?_ | (refine kCond ?_; (first | refine c_cond_t rfl ?_ | refine c_cond_f rfl ?_ | ((first | refine c_cond_d rfl (fun h => ?_) (fun h => ?_) | refine c_cond_n rfl (fun h => ?_) (fun h => ?_)) <;> (try (first | contradiction | (exfalso; omega)))) | refine c_cond_nb rfl (fun h => ?_) (fun h => ?_) | refine c_cond rfl (fun h => ?_) (fun h => ?_))) | refine c_block ?_ | refine c_skip ?_ | refine c_exit ?_ | refine c_regionQN rfl rfl (by decide +kernel) ?_)) | apply s_stepQ | (refine kQG ?_; (first | refine s_gyesQ rfl rfl rfl ?_ | refine s_gnoQ rfl rfl rfl rfl rfl ?_ | ((first | refine s_splitQ_d rfl rfl (fun h => ?_) (fun h => ?_) | refine s_splitQ_n rfl rfl (fun h => ?_) (fun h => ?_)) <;> (try (first | contradiction | (exfalso; omega)))) | refine s_splitQ_nb rfl rfl (fun h => ?_) (fun h => ?_) | refine s_splitQ rfl rfl (fun h => ?_) (fun h => ?_))) | refine lQ_then ?_ | refine lQ_ends ?_ | (refine kE ?_; (first | refine e_then_r ?_ | refine e_block_r ?_ | refine e_then_n ?_ | refine e_then_x ?_ | refine e_block_n ?_ | refine e_block_x ?_ | refine e_block_y rfl ?_)) | refine l_ends ?_)
  all_goals (refine kE ?_; refine s_leaveSF rfl rfl rfl fwA (fun w hw => ?_))
  all_goals exact ⟨_, _, rfl, ⟨_, rfl, hu⟩, hw.toFresh (H := H) gpA⟩
theorem c_szRectS (v : Value) (l : List DRect) (left : Int) (w : World) (hv : RRects w v l) (hl : 0 ≤ left ∧ left ≤ 1048576) : SYields Try.prog 213 #[v, .int .i64 left] (.int .i64 (szI l.length left)) w := by
  have hk := hv.len
  (first | apply SYields.mk | apply SYieldsF.mk | skip); refine s_enter Try.func213 rfl Try.ntmps213 rfl ?_
  repeat' (first | exact rfl | (apply kO; (first | exact ov_pure rfl | (apply kOBin; (first | exact aBin)) | (apply kOCall; (first | (apply kCallB; (first | exact aBlt | exact (ov_lenR (fun w hw => RRow.keep hv (hw.cells rfl)) rfl) | exact aLenR)))) | (apply kOLoad; (first | exact aLdF | exact aLdR)) | exact ov_fieldAddr rfl | (apply kOIdx; (first | exact aIdx)) | exact aRest | exact aNew | exact (ov_field1 (ft := 37) rfl rfl rfl rfl))) | (refine kN ?_; (first | (refine kStore ?_; (first | refine s_store1 _ rfl rfl gpA rfl (by rfl) ?_ | refine s_storeS _ rfl rfl gpA rfl rfl (by rfl) ?_ | refine s_storeS _ rfl rfl gpA rfl (ones_img oiA) (by rfl) ?_)) | refine s_boxS rfl rfl (fun b hb => ?_) | refine s_allocS rfl (fun b hb => ?_) | refine s_box1 rfl rfl rfl (fun b hb => ?_) | refine s_alloc1 rfl rfl (fun b hb => ?_) | refine s_buildSlice0 rfl (fun b hb => ?_) | refine s_buildSlice rfl rfl rfl rfl rfl (fun b hb => ?_) | apply s_step)) | (refine kG ?_; (first | refine s_gyes rfl rfl rfl ?_ | refine s_gno rfl rfl rfl rfl rfl ?_ | ((first | refine s_split_d rfl rfl (fun h => ?_) (fun h => ?_) | refine s_split_n rfl rfl (fun h => ?_) (fun h => ?_)) <;> (try (first | contradiction | (exfalso; omega)))) | refine s_split_nb rfl rfl (fun h => ?_) (fun h => ?_) | refine s_split rfl rfl (fun h => ?_) (fun h => ?_))) | refine l_then ?_ | (refine kC ?_; (first | refine c_seq ?_ | refine c_regionN rfl ?_ | refine c_ret ?_ | (refine kCond ?_; (first | refine c_cond_t rfl ?_ | refine c_cond_f rfl ?_ | ((first | refine c_cond_d rfl (fun h => ?_) (fun h => ?_) | refine c_cond_n rfl (fun h => ?_) (fun h => ?_)) <;> (try (first | contradiction | (exfalso; omega)))) | refine c_cond_nb rfl (fun h => ?_) (fun h => ?_) | refine c_cond rfl (fun h => ?_) (fun h => ?_))) | refine c_block ?_ | refine c_skip ?_ | refine c_exit ?_ | refine c_regionQN rfl rfl (by decide +kernel) ?_)) | apply s_stepQ | (refine kQG ?_; (first | refine s_gyesQ rfl rfl rfl ?_ | refine s_gnoQ rfl rfl rfl rfl rfl ?_ | ((first | refine s_splitQ_d rfl rfl (fun h => ?_) (fun h => ?_) | refine s_splitQ_n rfl rfl (fun h => ?_) (fun h => ?_)) <;> (try (first | contradiction | (exfalso; omega)))) | refine s_splitQ_nb rfl rfl (fun h => ?_) (fun h => ?_) | refine s_splitQ rfl rfl (fun h => ?_) (fun h => ?_))) | refine lQ_then ?_ | refine lQ_ends ?_ | (refine kE ?_; (first | refine e_then_r ?_ | refine e_block_r ?_ | refine e_then_n ?_ | refine e_then_x ?_ | refine e_block_n ?_ | refine e_block_x ?_ | refine e_block_y rfl ?_)) | refine l_ends ?_)
  all_goals refine s_leave1 rfl rfl (fun w hw => ⟨?_, hw.below⟩)
  all_goals (refine ret_int ?_; unfold szI at *; (repeat' split at *) <;> omega)
theorem c_szRegion (v : Value) (l : List DRect) (left : Int) (w : World) (hv : RRects w v l) (hl : 0 ≤ left ∧ left ≤ 1048576) : SYields Try.prog 174 #[vReg v, .int .i64 left] (.int .i64 (szI l.length left)) w := by
  have hk := hv.len
  (first | apply SYields.mk | apply SYieldsF.mk | skip); refine s_enter Try.func174 rfl Try.ntmps174 rfl ?_
  repeat' (first | exact rfl | (apply kO; (first | exact ov_pure rfl | (apply kOBin; (first | exact aBin)) | (apply kOCall; (first | (apply kCallF; (first | exact (ov_call rfl (fun w hw => c_szRectS _ _ _ w (RVs.keep hv (hw.cells rfl)) (by omega))))) | (apply kCallB; (first | exact aBlt | exact aLenR)))) | (apply kOLoad; (first | exact aLdF | exact aLdR)) | exact ov_fieldAddr rfl | (apply kOIdx; (first | exact aIdx)) | exact aRest | exact aNew | exact (ov_field1 (ft := 37) rfl rfl rfl rfl))) | (refine kN ?_; (first | (refine kStore ?_; (first | refine s_store1 _ rfl rfl gpA rfl (by rfl) ?_ | refine s_storeS _ rfl rfl gpA rfl rfl (by rfl) ?_ | refine s_storeS _ rfl rfl gpA rfl (ones_img oiA) (by rfl) ?_)) | refine s_boxS rfl rfl (fun b hb => ?_) | refine s_allocS rfl (fun b hb => ?_) | refine s_box1 rfl rfl rfl (fun b hb => ?_) | refine s_alloc1 rfl rfl (fun b hb => ?_) | refine s_buildSlice0 rfl (fun b hb => ?_) | refine s_buildSlice rfl rfl rfl rfl rfl (fun b hb => ?_) | apply s_step)) | (refine kG ?_; (first | refine s_gyes rfl rfl rfl ?_ | refine s_gno rfl rfl rfl rfl rfl ?_ | ((first | refine s_split_d rfl rfl (fun h => ?_) (fun h => ?_) | refine s_split_n rfl rfl (fun h => ?_) (fun h => ?_)) <;> (try (first | contradiction | (exfalso; omega)))) | refine s_split_nb rfl rfl (fun h => ?_) (fun h => ?_) | refine s_split rfl rfl (fun h => ?_) (fun h => ?_))) | refine l_then ?_ | (refine kC ?_; (first | refine c_seq ?_ | refine c_regionN rfl ?_ | refine c_ret ?_ | (refine kCond ?_; (first | refine c_cond_t rfl ?_ | refine c_cond_f rfl ?_ | ((first | refine c_cond_d rfl (fun h => ?_) (fun h => ?_) | refine c_cond_n rfl (fun h => ?_) (fun h => ?_)) <;> (try (first | contradiction | (exfalso; omega)))) | refine c_cond_nb rfl (fun h => ?_) (fun h => ?_) | refine c_cond rfl (fun h => ?_) (fun h => ?_))) | refine c_block ?_ | refine c_skip ?_ | refine c_exit ?_ | refine c_regionQN rfl rfl (by decide +kernel) ?_)) | apply s_stepQ | (refine kQG ?_; (first | refine s_gyesQ rfl rfl rfl ?_ | refine s_gnoQ rfl rfl rfl rfl rfl ?_ | ((first | refine s_splitQ_d rfl rfl (fun h => ?_) (fun h => ?_) | refine s_splitQ_n rfl rfl (fun h => ?_) (fun h => ?_)) <;> (try (first | contradiction | (exfalso; omega)))) | refine s_splitQ_nb rfl rfl (fun h => ?_) (fun h => ?_) | refine s_splitQ rfl rfl (fun h => ?_) (fun h => ?_))) | refine lQ_then ?_ | refine lQ_ends ?_ | (refine kE ?_; (first | refine e_then_r ?_ | refine e_block_r ?_ | refine e_then_n ?_ | refine e_then_x ?_ | refine e_block_n ?_ | refine e_block_x ?_ | refine e_block_y rfl ?_)) | refine l_ends ?_)
  all_goals refine s_leave1 rfl rfl (fun w hw => ⟨?_, hw.below⟩)
  all_goals (refine ret_int ?_; unfold szI at *; (repeat' split at *) <;> omega)
end Go.Proofs.Ytakijgpoaeggnaa
/-
  Contracts: the laws' own helpers on edits.
-/
set_option linter.unusedVariables false
namespace Go.Proofs.Ytakijgpoaeggnaa
open Go Sx Go.ChangeShapes Go.WideShapes Go.ChangeAt Go.RowKit
attribute [local irreducible] Exit.then Exit.inBlock bodyPost
abbrev cEdit (s : DEdit) (d : Value) : List Value := [.int .i64 s.Kind, .int .i64 s.Id, .int .i64 s.A, .int .i64 s.B, .int .i64 s.buf.W, .int .i64 s.buf.H, d]
abbrev vEdit (s : DEdit) (d : Value) : Value := .agg #[.int .i64 s.Kind, .int .i64 s.Id, .int .i64 s.A, .int .i64 s.B, .int .i64 s.buf.W, .int .i64 s.buf.H, d]
def OEdit (u : Value) (s : DEdit) (H : SPiece) : Prop := ∃ d, u = vEdit s d ∧ OInts 3 d s.buf.data H
def eEdit : SElem DEdit where
  k := 7
  dflt := default
  cells := cEdit
  klen := fun _ _ => rfl
  rd := fun w d s => RInts w d s.buf.data
  own := fun d s H => OInts 3 d s.buf.data H
  keep := fun h hw => RInts.keep h hw
  reads := fun h hw => OInts.reads h hw
theorem eEdit_dflt : eEdit.dflt = default := rfl
def editsLen (l : List DEdit) : Nat := l.length + sumTo (fun i => (l.getD i default).buf.data.length) l.length
end Go.Proofs.Ytakijgpoaeggnaa
/-
  The plain functions, continued: chains of buffers. No program in sight.
-/
set_option linter.unusedVariables false
namespace Sx
structure DChain where
  bufs : List DImg
  ages : List Int
  dams : List (List DRect)
  scene : DScene
deriving DecidableEq
def DChain.age (c : DChain) (k : Nat) : Int := c.ages.getD k 0
def DChain.buf (c : DChain) (k : Nat) : DImg := c.bufs.getD k DImg.zero
def DChain.dam (c : DChain) (k : Nat) : List DRect := c.dams.getD k []
def DChain.bufOk (c : DChain) (k : Nat) : Prop :=
  (c.buf k).ok ∧ (c.buf k).W = c.scene.W ∧ (c.buf k).H = c.scene.H ∧ (0 ≤ c.age k ∧ c.age k ≤ 3 ∧ c.age k ≤ c.dams.length + 1) ∧ ∀ i, i < k → c.age i = c.age k → c.age k = 0
instance (c : DChain) (k : Nat) : Decidable (c.bufOk k) := by unfold DChain.bufOk; infer_instance
def DChain.ok (c : DChain) : Prop :=
  c.scene.ok ∧ (1 ≤ c.bufs.length ∧ c.bufs.length ≤ 3) ∧ c.ages.length = c.bufs.length ∧ c.dams.length ≤ 3 ∧ (∀ k, k < c.bufs.length → c.bufOk k) ∧ ∀ k, k < c.dams.length → regionOk (c.dam k)
instance (c : DChain) : Decidable c.ok := by unfold DChain.ok; infer_instance
/-- the first one that was never presented, or the oldest one -/
def nbFrom (l : List Int) : Nat → Nat → Nat → Nat
  | 0, best, _ => best
  | f + 1, best, k => if k < l.length then (if l.getD k 0 = 0 then k else nbFrom l f (if l.getD best 0 < l.getD k 0 then k else best) (k + 1)) else best
def nextB (c : DChain) : Nat := nbFrom c.ages c.ages.length 0 0
def nextBuffer (c : DChain) : Int := if c.ok then (nextB c : Int) else -1
/-- where buffer k has to be painted again -/
def staleG (c : DChain) (k : Nat) (s : DScene) : Grid := fun y x => points (damageOf c.scene s) y x || (List.range (c.age k - 1).toNat).any (fun i => points (c.dam i) y x)
def staleR (c : DChain) (k : Nat) (s : DScene) : List DRect := if c.age k = 0 then canon (scrG s) else canon (staleG c k s)
def staleRegion (c : DChain) (k : Int) (s : DScene) : List DRect := if c.ok ∧ s.ok ∧ sameSize s c.scene ∧ 0 ≤ k ∧ k < c.bufs.length then staleR c k.toNat s else []
def presentable (c : DChain) (s : DScene) : Prop := c.ok ∧ s.ok ∧ sameSize s c.scene
instance (c : DChain) (s : DScene) : Decidable (presentable c s) := by unfold presentable; infer_instance
def newDams (c : DChain) (s : DScene) : List (List DRect) := (damageOf c.scene s :: c.dams).take 3
def newAge (c : DChain) (s : DScene) (i : Nat) : Int :=
  let a := if i = nextB c then 1 else if c.age i = 0 then 0 else c.age i + 1
  if 3 < a ∨ ((newDams c s).length : Int) + 1 < a then 0 else a
def presented (c : DChain) (s : DScene) : DChain :=
  ⟨c.bufs.set (nextB c) (paintInto (c.buf (nextB c)) s (staleR c (nextB c) s)), (List.range c.ages.length).map (newAge c s), newDams c s, s⟩
/-- each buffer that was presented shows the scene but for the damages since -/
def shows (c : DChain) : Prop := ∀ k, k < c.bufs.length → c.age k ≠ 0 → ∀ y x : Nat, scrG c.scene y x = true → (∀ i : Nat, (i : Int) < c.age k - 1 → points (c.dam i) y x = false) → (c.buf k).at x y = paintF c.scene x y
end Sx
/-
  The plain functions, continued: damage as the program and as the reference gather it. No program in sight.
-/
set_option linter.unusedVariables false
namespace Sx
def accG (f : Nat → Grid) : Nat → Grid
  | 0 => Grid.none
  | n + 1 => (accG f n).or (f n)
def damA (a b : DScene) (j : Nat) : Grid :=
  if surfaceIndex b.ss (a.ss.getD j default).Id < 0 then rectG (surfRect (a.ss.getD j default))
  else if a.ss.getD j default = b.ss.getD (surfaceIndex b.ss (a.ss.getD j default).Id).toNat default then Grid.none
  else (rectG (surfRect (a.ss.getD j default))).or (rectG (surfRect (b.ss.getD (surfaceIndex b.ss (a.ss.getD j default).Id).toNat default)))
def damC (a b : DScene) (i k : Nat) : Grid :=
  if surfaceIndex a.ss (b.ss.getD i default).Id < surfaceIndex a.ss (b.ss.getD k default).Id then rectG ((surfRect (b.ss.getD i default)).inter (surfRect (b.ss.getD k default))) else Grid.none
def damB (a b : DScene) (i : Nat) : Grid :=
  if surfaceIndex a.ss (b.ss.getD i default).Id < 0 then rectG (surfRect (b.ss.getD i default)) else accG (damC a b i) i
def damAll (a b : DScene) : Grid := (accG (damA a b) a.ss.length).or (accG (damB a b) b.ss.length)
/-! the reference's list -/
def dlA (a b : DScene) : Nat → List DRect
  | 0 => []
  | j + 1 => dlA a b j ++ (if surfaceIndex b.ss (a.ss.getD j default).Id < 0 ∨ ¬ a.ss.getD j default = b.ss.getD (surfaceIndex b.ss (a.ss.getD j default).Id).toNat default then [surfRect (a.ss.getD j default)] else [])
def dlC (a b : DScene) (i : Nat) : Nat → List DRect
  | 0 => []
  | k + 1 => dlC a b i k ++ (if 0 ≤ surfaceIndex a.ss (b.ss.getD i default).Id ∧ surfaceIndex a.ss (b.ss.getD i default).Id < surfaceIndex a.ss (b.ss.getD k default).Id then [(surfRect (b.ss.getD i default)).inter (surfRect (b.ss.getD k default))] else [])
def dlO (a b : DScene) (i : Nat) : List DRect := if surfaceIndex a.ss (b.ss.getD i default).Id < 0 ∨ ¬ a.ss.getD (surfaceIndex a.ss (b.ss.getD i default).Id).toNat default = b.ss.getD i default then [surfRect (b.ss.getD i default)] else []
def dlB (a b : DScene) : Nat → List DRect
  | 0 => []
  | i + 1 => dlB a b i ++ (dlO a b i ++ dlC a b i i)
/-! a list changed in place -/
def mapFR (f : DRect → DRect) (l : List DRect) (j : Nat) : List DRect := (l.take j).map f ++ l.drop j
end Sx
/-
  The plain functions, continued: a rectangle filled row by row; one surface painted, as the program and as the reference do it. No program in sight.
-/
set_option linter.unusedVariables false
namespace Sx
/-- a rectangle is filled up to row j, and in that row up to place i -/
def boxTo (r : DRect) (f old : Int → Int → Int) (j i : Nat) (x y : Int) : Int :=
  if (r.X ≤ x ∧ x < r.X + r.W ∧ r.Y ≤ y) ∧ (y < r.Y + j ∨ (y = r.Y + j ∧ x < r.X + i)) then f x y else old x y
/-- how many points the program paints of the first k pixels -/
def hitN (s : DSurf) (g : Grid) (w h : Int) : Nat → Int
  | 0 => 0
  | k + 1 => hitN s g w h k + (if ((0 ≤ kx s k ∧ kx s k ≤ w - 1) ∧ (0 ≤ ky s k ∧ ky s k ≤ h - 1)) ∧ inG g (kx s k) (ky s k) = true then 1 else 0)
end Sx
/-
  The plain functions, continued: how many points are painted. No program in sight.
-/
set_option linter.unusedVariables false
namespace Sx
/-- the points of g that the first k pixels of the picture reach -/
def hitG (s : DSurf) (g : Grid) (k : Nat) : Grid := fun y x => g y x && decide (hitTo s k x y)
end Sx
/-
  The plain functions, continued: the pixels of a region copied; only what can be seen is painted. No program in sight.
-/
set_option linter.unusedVariables false
namespace Sx
/-- the part that two images have in common -/
def bothR (to fr : DImg) : DRect := ⟨0, 0, min to.W fr.W, min to.H fr.H⟩
def copyTo (to fr : DImg) (g : Grid) (j i : Nat) : Int → Int → Int := boxTo (bothR to fr) (copyF to fr g) to.at j i
/-! only what can be seen -/
/-- pixels after n surfaces, by whole numbers -/
def pvF (s : DScene) (n : Nat) (x y : Int) : Int := pvTo s n x.toNat y.toNat
/-- the area that is painted of surface k -/
def pvN (s : DScene) : Nat → Int
  | 0 => (card (((rectG (scrR s)).without (coverG s 0))) : Int)
  | n + 1 => pvN s n + (card (seenG s n) : Int)
def paintVisible (s : DScene) : DImg := if s.ok then fimg (pvF s s.ss.length) s.W s.H else DImg.zero
def visibleCost (s : DScene) : Int := if s.ok then pvN s s.ss.length else 0
/-- one row of the reference's way: after i places of row j -/
def seeTo (s : DScene) (k : Nat) (j i : Nat) : Int → Int → Int := boxTo (scrR s) (fun x y => pvF s (k + 1) x y) (pvF s k) j i
end Sx
/-
  The plain functions, continued: chains that stay valid; which buffer is presented when. No program in sight.
-/
set_option linter.unusedVariables false
namespace Sx
/-! the damages lie on the screen -/
def inside (c : DChain) : Prop := ∀ k, k < c.dams.length → ∀ y x, y < 16 → x < 16 → points (c.dam k) y x = true → scrG c.scene y x = true
/-! which buffer is presented when -/
def nbOf (l : List Int) : Nat := nbFrom l l.length 0 0
def nextAges (l : List Int) (d : Nat) : List Int := (List.range l.length).map (fun i =>
  let a := if i = nbOf l then 1 else if l.getD i 0 = 0 then 0 else l.getD i 0 + 1
  if 3 < a ∨ ((min 3 (d + 1) : Nat) : Int) + 1 < a then 0 else a)
def agesA (n k : Nat) : List Int := (List.range n).map (fun i => if i < k then (k : Int) - i else 0)
def agesB (n j : Nat) : List Int := (List.range n).map (fun i => if i < j then (j : Int) - i else (n : Int) + j - i)
/-! a new chain -/
def newChain (s : DScene) (n : Int) : DChain := if s.ok ∧ (1 ≤ n ∧ n ≤ 3) then ⟨List.replicate n.toNat (newImage s.W s.H s.Back), List.replicate n.toNat 0, [], s⟩ else ⟨[], [], [], ⟨0, 0, 0, []⟩⟩
end Sx
/-
  Chains of buffers in memory, and the laws' own helpers on them: made, measured, compared.
-/
set_option linter.unusedVariables false
namespace Go.Proofs.Ytakijgpoaeggnaa
open Go Sx Go.ChangeShapes Go.WideShapes Go.ChangeAt Go.RowKit
attribute [local irreducible] Exit.then Exit.inBlock bodyPost OVs OInts
structure ChV where
  b : Value
  a : Value
  d : Value
  s : Value
abbrev cChain (c : DChain) (v : ChV) : List Value := [v.b, v.a, v.d, .int .i64 c.scene.W, .int .i64 c.scene.H, .int .i64 c.scene.Back, v.s]
abbrev vChain (c : DChain) (b a d s : Value) : Value := .agg #[b, a, d, .int .i64 c.scene.W, .int .i64 c.scene.H, .int .i64 c.scene.Back, s]
structure RCh (w : World) (c : DChain) (b a d s : Value) : Prop where
  bufs : RS eImg w b c.bufs
  ages : RInts w a c.ages
  dams : RS eReg w d c.dams
  surfs : RS eSurf w s c.scene.ss
theorem RCh.keep {w w' : World} {c : DChain} {b a d s : Value} (h : RCh w c b a d s) (hw : ∀ p u, w.cell? p = some u → w'.cell? p = some u) : RCh w' c b a d s := ⟨h.bufs.keep hw, h.ages.keep hw, h.dams.keep hw, h.surfs.keep hw⟩
theorem RCh.len {w : World} {c : DChain} {b a d s : Value} (h : RCh w c b a d s) : c.ages.length ≤ 9223372036854775807 := RRow.len h.ages
def OChain (u : Value) (c : DChain) (H : SPiece) : Prop := ∃ b a d s Hb Ha Hd Hs, u = vChain c b a d s ∧ OElems eImg 39 b c.bufs Hb ∧ OInts 3 a c.ages Ha ∧ OElems eReg 34 d c.dams Hd ∧ OElems eSurf 62 s c.scene.ss Hs ∧ H = [Hs, Hd, Ha, Hb].flatten
theorem eReg_ones {l : List DRect} {d : Value} (h : d.oneCell' = true) : oneCells (eReg.cells l d) = true := ones_cons h rfl
theorem eImg_ones {i : DImg} {d : Value} (h : d.oneCell' = true) : oneCells (eImg.cells i d) = true := ones_cons rfl (ones_cons rfl (ones_cons h rfl))
section
variable {P : Program} {n : Nat} {lo : SMut} {s : World} {ops : Array Oper} {Q : Exit → Act → World → Prop} {E : SEnv} {L : SHeap} {l : List Oper}
end
def imgsLen (l : List DImg) : Nat := l.length + sumTo (fun i => (l.getD i DImg.zero).data.length) l.length
def regsLen (l : List (List DRect)) : Nat := l.length + sumTo (fun i => (l.getD i []).length) l.length
def chainLen (c : DChain) : Nat := imgsLen c.bufs + c.ages.length + regsLen c.dams + surfsLen c.scene.ss
theorem open_chain {W : World} {cs : List Value} (h : SRd Try.prog W 84 cs) : ∃ (c : DChain) (v : ChV), cs = cChain c v ∧ RCh W c v.b v.a v.d v.s := by
  obtain ⟨l, q⟩ := h.struct
  obtain ⟨vb, n0, rows0, g0, hr0, hel0⟩ := (SRd.sub q 0 0 78 rfl).slice (by decide)
  obtain ⟨bs, hb⟩ := open_elems eImg hr0 (fun i hi => open_img (hel0 i hi))
  obtain ⟨va, ka, g1, ha⟩ := (SRd.sub q 1 1 37 rfl).ints
  obtain ⟨vd, n2, rows2, g2, hr2, hel2⟩ := (SRd.sub q 2 2 79 rfl).slice (by decide)
  obtain ⟨ds, hd⟩ := open_elems eReg hr2 (fun i hi => open_region (hel2 i hi))
  obtain ⟨sc, vs, g3, hs⟩ := open_scene (SRd.sub q 3 3 82 rfl)
  exact ⟨⟨bs, ka, ds, sc⟩, ⟨vb, va, vd, vs⟩, cells_eq l rfl (fun k hk => match k, hk with | 0, _ => take1 g0 | 1, _ => take1 g1 | 2, _ => take1 g2 | 3, _ => take_at (j := 0) g3 rfl | 4, _ => take_at (j := 1) g3 rfl | 5, _ => take_at (j := 2) g3 rfl | 6, _ => take_at (j := 3) g3 rfl | k + 7, hk => absurd hk (by omega)), ⟨hb, ha, hd, hs⟩⟩
theorem c_toImageS (v : Value) (l : List DImg) (w : World) (hv : RS eImg w v l) (hl : imgsLen l ≤ 1048576) : SYieldsF Try.prog 122 #[v] (fun u H => OElems eImg 39 u l H) w := by
  obtain ⟨ds, hv⟩ := hv
  have hk := hv.row.len
  have hln : l.length ≤ imgsLen l := by unfold imgsLen; omega
  have hdn : ∀ i, i < l.length → (l.getD i DImg.zero).data.length ≤ 1048576 := fun i hi => by have := le_sumTo (fun i => (l.getD i DImg.zero).data.length) hi; unfold imgsLen at hl; omega
  (first | apply SYields.mk | apply SYieldsF.mk | skip); refine s_enter Try.func122 rfl Try.ntmps122 rfl ?_
  repeat' (first | exact rfl | (apply kO; (first | exact ov_pure rfl | (apply kOBin; (first | exact aBin)) | (apply kOCall; (first | (apply kCallB; (first | exact aBlt | exact (ov_lenR (fun w hw => hv.row.keep (hw.cells rfl)) rfl) | exact aLenR)))) | (apply kOLoad; (first | exact (ov_ldRZ (fun w hw => hv.row.keep (hw.cells rfl)) rfl rfl (by omega) rfl) | exact aLdF | exact aLdR)) | exact ov_fieldAddr rfl | (apply kOIdx; (first | exact (ov_idxR (fun w hw => hv.row.keep (hw.cells rfl)) rfl rfl (by omega)) | exact aIdx)) | exact aRest | exact aNew | exact (ov_field1 (ft := 37) rfl rfl rfl rfl))) | (refine kN ?_; (first | (refine kCall ?_; (first | (refine kWFunc ?_; (refine s_callF (fun u H => OImg u (l.getD j.1 DImg.zero) H) rfl (fun w hw => c_toImage _ _ w (RInts.keep (hv.rd _ (by omega)) (hw.cells rfl)) (hdn _ (by omega))) rfl (fun u H hu => ?_); obtain ⟨d', rfl, hu⟩ := hu; obtain ⟨ua, uc, rfl⟩ := hu.form)) | apply s_step)) | (refine kStore ?_; (first | (refine s_setRS 1 rfl rfl rfl rfl rfl (by rw [efill_length _ _ _ _ rfl _ _ (by omega)]; simp only [eImg, List.length_cons, List.length_nil]; omega) ?_) | refine s_store1 _ rfl rfl gpA rfl (by rfl) ?_ | refine s_storeS _ rfl rfl gpA rfl rfl (by rfl) ?_ | refine s_storeS _ rfl rfl gpA rfl (ones_img oiA) (by rfl) ?_)) | refine s_boxS rfl rfl (fun b hb => ?_) | refine s_allocS rfl (fun b hb => ?_) | refine s_box1 rfl rfl rfl (fun b hb => ?_) | refine s_alloc1 rfl rfl (fun b hb => ?_) | (refine kWMake ?_; (refine s_makeS rfl rfl rfl (by decide) ⟨by omega, by omega, by omega⟩ (by omega) rfl (fun b hb => ?_))) | refine s_buildSlice0 rfl (fun b hb => ?_) | refine s_buildSlice rfl rfl rfl rfl rfl (fun b hb => ?_) | apply s_step)) | (refine kG ?_; (first | refine s_gyes rfl rfl rfl ?_ | refine s_gno rfl rfl rfl rfl rfl ?_ | ((first | refine s_split_d rfl rfl (fun h => ?_) (fun h => ?_) | refine s_split_n rfl rfl (fun h => ?_) (fun h => ?_)) <;> (try (first | contradiction | (exfalso; omega)))) | refine s_split_nb rfl rfl (fun h => ?_) (fun h => ?_) | refine s_split rfl rfl (fun h => ?_) (fun h => ?_))) | refine l_then ?_ | (refine kC ?_; (first | (refine c_loopV (ι := Nat × (Nat → Value) × (Nat → SPiece)) (fun j => j.1 ≤ l.length ∧ ∀ i, i < j.1 → eImg.own (j.2.1 i) (l.getD i eImg.dflt) (j.2.2 i)) (fun j => [(4, .int .i64 (j.1 : Int))]) (fun j => [[(b, srow (efill eImg l j.2.1 [.int .i64 0, .int .i64 0, .slice none 0 0] l.length j.1) 39)], ecat j.2.2 j.1]) (fun j => l.length - j.1) (0, fun _ => undef, fun _ => []) ⟨by omega, fun i hi => by omega⟩ rfl (fun _ => rfl) ⟨rfl, trivial⟩ (fun w hw => by rw [efill_zero]; exact SSt.lone hw) (fun j hj => ?_)) | refine c_seq ?_ | refine c_regionN rfl ?_ | refine c_ret ?_ | (refine kCond ?_; (first | refine c_cond_t rfl ?_ | refine c_cond_f rfl ?_ | ((first | refine c_cond_d rfl (fun h => ?_) (fun h => ?_) | refine c_cond_n rfl (fun h => ?_) (fun h => ?_)) <;> (try (first | contradiction | (exfalso; omega)))) | refine c_cond_nb rfl (fun h => ?_) (fun h => ?_) | refine c_cond rfl (fun h => ?_) (fun h => ?_))) | refine c_block ?_ | refine c_skip ?_ | refine c_exit ?_ | refine c_regionQN rfl rfl (by decide +kernel) ?_)) | apply s_stepQ | (refine kQG ?_; (first | refine s_gyesQ rfl rfl rfl ?_ | refine s_gnoQ rfl rfl rfl rfl rfl ?_ | ((first | refine s_splitQ_d rfl rfl (fun h => ?_) (fun h => ?_) | refine s_splitQ_n rfl rfl (fun h => ?_) (fun h => ?_)) <;> (try (first | contradiction | (exfalso; omega)))) | refine s_splitQ_nb rfl rfl (fun h => ?_) (fun h => ?_) | refine s_splitQ rfl rfl (fun h => ?_) (fun h => ?_))) | refine lQ_then ?_ | refine lQ_ends ?_ | (refine kE ?_; (first | refine e_then_r ?_ | refine e_block_r ?_ | refine e_then_n ?_ | refine e_then_x ?_ | refine e_block_n ?_ | refine e_block_x ?_ | refine e_block_y rfl ?_)) | refine l_ends ?_)
  · refine e_round (j.1 + 1, upd j.2.1 j.1 (.slice ua (l.getD j.1 DImg.zero).data.length uc), upd j.2.2 j.1 H) ⟨by dsimp only; omega, fun i hi => ?_⟩ ⟨rfl, (by repeat' first | exact trivial | refine ⟨rfl, ?_⟩)⟩ (fun w hw => ?_) (by dsimp only; omega)
    · dsimp only at hi ⊢
      by_cases e : i = j.1
      · subst e; rw [upd_at, upd_at]; exact hu
      · rw [upd_old _ _ e, upd_old _ _ e]; exact hj.2 i (by omega)
    · dsimp only
      have hw := SSt.regroup hw
      rw [ecat_upd, ← efill_next eImg l j.2.1 _ _ rfl l.length j.1 (by omega) _ (fun i hi => upd_old _ _ (by omega)) (upd_at _ _ _)]
      rw [show 0 + (j.1 : Int).toNat * 3 = j.1 * eImg.k by rw [Int.toNat_natCast, Nat.zero_add]; rfl] at hw
      exact hw
  · have he : j.1 = l.length := by omega
    rw [he, efill_all]
    refine s_leave1 rfl rfl (fun w hw => ⟨_, _, rfl, ?_, hw.whole⟩)
    exact OElems.mk b (fun i hi => hj.2 i (by omega)) (by unfold maxLen; omega)
theorem c_toRegionS (v : Value) (l : List (List DRect)) (w : World) (hv : RS eReg w v l) (hl : regsLen l ≤ 1048576) : SYieldsF Try.prog 123 #[v] (fun u H => OElems eReg 34 u l H) w := by
  obtain ⟨ds, hv⟩ := hv
  have hk := hv.row.len
  have hln : l.length ≤ regsLen l := by unfold regsLen; omega
  have hdn : ∀ i, i < l.length → (l.getD i []).length ≤ 1048576 := fun i hi => by have := le_sumTo (fun i => (l.getD i []).length) hi; unfold regsLen at hl; omega
  (first | apply SYields.mk | apply SYieldsF.mk | skip); refine s_enter Try.func123 rfl Try.ntmps123 rfl ?_
  repeat' (first | exact rfl | (apply kO; (first | exact ov_pure rfl | (apply kOBin; (first | exact aBin)) | (apply kOCall; (first | (apply kCallB; (first | exact aBlt | exact (ov_lenR (fun w hw => hv.row.keep (hw.cells rfl)) rfl) | exact aLenR)))) | (apply kOLoad; (first | exact (ov_ldRZ (fun w hw => hv.row.keep (hw.cells rfl)) rfl rfl (by omega) rfl) | exact aLdF | exact aLdR)) | exact ov_fieldAddr rfl | (apply kOIdx; (first | exact (ov_idxR (fun w hw => hv.row.keep (hw.cells rfl)) rfl rfl (by omega)) | exact aIdx)) | exact aRest | exact aNew | exact (ov_field1 (ft := 37) rfl rfl rfl rfl))) | (refine kN ?_; (first | (refine kCall ?_; (first | (refine kWFunc ?_; (refine s_callF (fun u H => OReg u (l.getD j.1 []) H) rfl (fun w hw => c_toRegion _ _ w (eReg.keep (hv.rd _ (by omega)) (hw.cells rfl)) (hdn _ (by omega))) rfl (fun u H hu => ?_); obtain ⟨d', rfl, hu⟩ := hu; have f1 := hu.form; obtain ⟨ua, uc, rfl⟩ := f1)) | apply s_step)) | (refine kStore ?_; (first | (refine s_setRS 1 rfl rfl rfl rfl rfl (by rw [efill_length _ _ _ _ rfl _ _ (by omega)]; show _ + 1 ≤ l.length * 1; omega) ?_) | refine s_store1 _ rfl rfl gpA rfl (by rfl) ?_ | refine s_storeS _ rfl rfl gpA rfl rfl (by rfl) ?_ | refine s_storeS _ rfl rfl gpA rfl (ones_img oiA) (by rfl) ?_)) | refine s_boxS rfl rfl (fun b hb => ?_) | refine s_allocS rfl (fun b hb => ?_) | refine s_box1 rfl rfl rfl (fun b hb => ?_) | refine s_alloc1 rfl rfl (fun b hb => ?_) | (refine kWMake ?_; (refine s_makeS rfl rfl rfl (by decide) ⟨by omega, by omega, by omega⟩ (by omega) rfl (fun b hb => ?_))) | refine s_buildSlice0 rfl (fun b hb => ?_) | refine s_buildSlice rfl rfl rfl rfl rfl (fun b hb => ?_) | apply s_step)) | (refine kG ?_; (first | refine s_gyes rfl rfl rfl ?_ | refine s_gno rfl rfl rfl rfl rfl ?_ | ((first | refine s_split_d rfl rfl (fun h => ?_) (fun h => ?_) | refine s_split_n rfl rfl (fun h => ?_) (fun h => ?_)) <;> (try (first | contradiction | (exfalso; omega)))) | refine s_split_nb rfl rfl (fun h => ?_) (fun h => ?_) | refine s_split rfl rfl (fun h => ?_) (fun h => ?_))) | refine l_then ?_ | (refine kC ?_; (first | (refine c_loopV (ι := Nat × (Nat → Value) × (Nat → SPiece)) (fun j => j.1 ≤ l.length ∧ ∀ i, i < j.1 → eReg.own (j.2.1 i) (l.getD i eReg.dflt) (j.2.2 i)) (fun j => [(4, .int .i64 (j.1 : Int))]) (fun j => [[(b, srow (efill eReg l j.2.1 [.slice none 0 0] l.length j.1) 34)], ecat j.2.2 j.1]) (fun j => l.length - j.1) (0, fun _ => undef, fun _ => []) ⟨by omega, fun i hi => by omega⟩ rfl (fun _ => rfl) ⟨rfl, trivial⟩ (fun w hw => by rw [efill_zero]; exact SSt.lone hw) (fun j hj => ?_)) | refine c_seq ?_ | refine c_regionN rfl ?_ | refine c_ret ?_ | (refine kCond ?_; (first | refine c_cond_t rfl ?_ | refine c_cond_f rfl ?_ | ((first | refine c_cond_d rfl (fun h => ?_) (fun h => ?_) | refine c_cond_n rfl (fun h => ?_) (fun h => ?_)) <;> (try (first | contradiction | (exfalso; omega)))) | refine c_cond_nb rfl (fun h => ?_) (fun h => ?_) | refine c_cond rfl (fun h => ?_) (fun h => ?_))) | refine c_block ?_ | refine c_skip ?_ | refine c_exit ?_ | refine c_regionQN rfl rfl (by decide +kernel) ?_)) | apply s_stepQ | (refine kQG ?_; (first | refine s_gyesQ rfl rfl rfl ?_ | refine s_gnoQ rfl rfl rfl rfl rfl ?_ | ((first | refine s_splitQ_d rfl rfl (fun h => ?_) (fun h => ?_) | refine s_splitQ_n rfl rfl (fun h => ?_) (fun h => ?_)) <;> (try (first | contradiction | (exfalso; omega)))) | refine s_splitQ_nb rfl rfl (fun h => ?_) (fun h => ?_) | refine s_splitQ rfl rfl (fun h => ?_) (fun h => ?_))) | refine lQ_then ?_ | refine lQ_ends ?_ | (refine kE ?_; (first | refine e_then_r ?_ | refine e_block_r ?_ | refine e_then_n ?_ | refine e_then_x ?_ | refine e_block_n ?_ | refine e_block_x ?_ | refine e_block_y rfl ?_)) | refine l_ends ?_)
  · refine e_round (j.1 + 1, upd j.2.1 j.1 (.slice ua (l.getD j.1 []).length uc), upd j.2.2 j.1 H) ⟨by dsimp only; omega, fun i hi => ?_⟩ ⟨rfl, (by repeat' first | exact trivial | refine ⟨rfl, ?_⟩)⟩ (fun w hw => ?_) (by dsimp only; omega)
    · dsimp only at hi ⊢
      by_cases e : i = j.1
      · subst e; rw [upd_at, upd_at]; exact hu
      · rw [upd_old _ _ e, upd_old _ _ e]; exact hj.2 i (by omega)
    · dsimp only
      have hw := SSt.regroup hw
      rw [ecat_upd, ← efill_next eReg l j.2.1 _ _ rfl l.length j.1 (by omega) _ (fun i hi => upd_old _ _ (by omega)) (upd_at _ _ _)]
      rw [show 0 + (j.1 : Int).toNat * 1 = j.1 * eReg.k by rw [Int.toNat_natCast, Nat.zero_add]; rfl] at hw
      exact hw
  · have he : j.1 = l.length := by omega
    rw [he, efill_all]
    refine s_leave1 rfl rfl (fun w hw => ⟨_, _, rfl, ?_, hw.whole⟩)
    exact OElems.mk b (fun i hi => hj.2 i (by omega)) (by unfold maxLen; omega)
set_option maxHeartbeats 2000000 in
theorem c_toChain (c : DChain) (vb va vd vs : Value) (W : World) (hc : RCh W c vb va vd vs) (hl : chainLen c ≤ 1048576) : SYieldsF Try.prog 51 #[vChain c vb va vd vs] (fun u H => OChain u c H) W := by
  obtain ⟨r1, r2, r3, r4⟩ := hc
  have f1 := r1.form; have f2 := r2.form; have f3 := r3.form; have f4 := r4.form
  obtain ⟨_, _, rfl⟩ := f1
  obtain ⟨_, _, rfl⟩ := f2
  obtain ⟨_, _, rfl⟩ := f3
  obtain ⟨_, _, rfl⟩ := f4
  have hcl : chainLen c = imgsLen c.bufs + c.ages.length + regsLen c.dams + surfsLen c.scene.ss := rfl
  (first | apply SYields.mk | apply SYieldsF.mk | skip); refine s_enter Try.func51 rfl Try.ntmps51 rfl ?_
  repeat' (first | exact rfl | (apply kO; (first | exact ov_pure rfl | (apply kOBin; (first | exact aBin)) | (apply kOCall; (first | (apply kCallB; (first | exact aBlt | exact aLenR)))) | (apply kOLoad; (first | exact aLdF | exact aLdR)) | exact ov_fieldAddr rfl | (apply kOIdx; (first | exact aIdx)) | exact aRest | exact aNew | exact (ov_field1 (ft := 37) rfl rfl rfl rfl))) | (refine kN ?_; (first | (refine kCall ?_; (first | (refine kWFn 122 ?_; (refine s_callF (fun u H => OElems eImg 39 u c.bufs H) rfl (fun w hw => c_toImageS _ _ w (r1.keep (hw.cells rfl)) (by omega)) rfl (fun u1 H1 hu1 => ?_); have f1 := hu1.form; obtain ⟨_, _, rfl⟩ := f1)) | (refine kWFn 94 ?_; (refine s_callF (fun u H => OInts 3 u c.ages H) rfl (fun w hw => c_toIntS _ _ w (r2.keep (hw.cells rfl)) (by omega)) rfl (fun u2 H2 hu2 => ?_); have f1 := hu2.form; obtain ⟨_, _, rfl⟩ := f1)) | (refine kWFn 123 ?_; (refine s_callF (fun u H => OElems eReg 34 u c.dams H) rfl (fun w hw => c_toRegionS _ _ w (r3.keep (hw.cells rfl)) (by omega)) rfl (fun u3 H3 hu3 => ?_); have f1 := hu3.form; obtain ⟨_, _, rfl⟩ := f1)) | (refine kWFn 58 ?_; (refine s_callF (fun u H => OScene u c.scene H) rfl (fun w hw => c_toScene c.scene _ w (r4.keep (hw.cells rfl)) (by omega)) rfl (fun u4 H4 hu4 => ?_); obtain ⟨d4, rfl, hu4⟩ := hu4; have f1 := hu4.form; obtain ⟨_, _, rfl⟩ := f1)) | apply s_step)) | (refine kStore ?_; (first | (refine s_storeS _ rfl rfl gpA rfl (ones_cons rfl (ones_cons rfl (ones_cons rfl (ones_cons (OElems.one (by assumption)) rfl)))) (by rfl) ?_) | (refine s_store1 _ rfl rfl gpA (OElems.one (by assumption)) (by rfl) ?_) | (refine s_store1 _ rfl rfl gpA (OInts.one (by assumption)) (by rfl) ?_) | refine s_store1 _ rfl rfl gpA rfl (by rfl) ?_ | refine s_storeS _ rfl rfl gpA rfl rfl (by rfl) ?_ | refine s_storeS _ rfl rfl gpA rfl (ones_img oiA) (by rfl) ?_)) | refine s_boxS rfl rfl (fun b hb => ?_) | refine s_allocS rfl (fun b hb => ?_) | refine s_box1 rfl rfl rfl (fun b hb => ?_) | refine s_alloc1 rfl rfl (fun b hb => ?_) | refine s_buildSlice0 rfl (fun b hb => ?_) | refine s_buildSlice rfl rfl rfl rfl rfl (fun b hb => ?_) | apply s_step)) | (refine kG ?_; (first | refine s_gyes rfl rfl rfl ?_ | refine s_gno rfl rfl rfl rfl rfl ?_ | ((first | refine s_split_d rfl rfl (fun h => ?_) (fun h => ?_) | refine s_split_n rfl rfl (fun h => ?_) (fun h => ?_)) <;> (try (first | contradiction | (exfalso; omega)))) | refine s_split_nb rfl rfl (fun h => ?_) (fun h => ?_) | refine s_split rfl rfl (fun h => ?_) (fun h => ?_))) | refine l_then ?_ | (refine kC ?_; (first | refine c_seq ?_ | refine c_regionN rfl ?_ | refine c_ret ?_ | (refine kCond ?_; (first | refine c_cond_t rfl ?_ | refine c_cond_f rfl ?_ | ((first | refine c_cond_d rfl (fun h => ?_) (fun h => ?_) | refine c_cond_n rfl (fun h => ?_) (fun h => ?_)) <;> (try (first | contradiction | (exfalso; omega)))) | refine c_cond_nb rfl (fun h => ?_) (fun h => ?_) | refine c_cond rfl (fun h => ?_) (fun h => ?_))) | refine c_block ?_ | refine c_skip ?_ | refine c_exit ?_ | refine c_regionQN rfl rfl (by decide +kernel) ?_)) | apply s_stepQ | (refine kQG ?_; (first | refine s_gyesQ rfl rfl rfl ?_ | refine s_gnoQ rfl rfl rfl rfl rfl ?_ | ((first | refine s_splitQ_d rfl rfl (fun h => ?_) (fun h => ?_) | refine s_splitQ_n rfl rfl (fun h => ?_) (fun h => ?_)) <;> (try (first | contradiction | (exfalso; omega)))) | refine s_splitQ_nb rfl rfl (fun h => ?_) (fun h => ?_) | refine s_splitQ rfl rfl (fun h => ?_) (fun h => ?_))) | refine lQ_then ?_ | refine lQ_ends ?_ | (refine kE ?_; (first | refine e_then_r ?_ | refine e_block_r ?_ | refine e_then_n ?_ | refine e_then_x ?_ | refine e_block_n ?_ | refine e_block_x ?_ | refine e_block_y rfl ?_)) | refine l_ends ?_)
  all_goals (refine kE ?_; refine s_leaveSF rfl rfl rfl fwA (fun w hw => ?_))
  all_goals exact ⟨_, _, rfl, ⟨_, _, _, _, H1, H2, H3, H4, rfl, hu1, hu2, hu3, hu4, rfl⟩, hw.toFreshL (by repeat' first | exact List.nil_sublist _ | exact List.Sublist.slnil | refine List.Sublist.cons_cons _ ?_ | refine List.Sublist.cons _ ?_)⟩
theorem c_szImageS (v : Value) (l : List DImg) (left : Int) (w : World) (hv : RS eImg w v l) (hl : 0 ≤ left ∧ left ≤ 1048576) : SYields Try.prog 118 #[v, .int .i64 left] (.int .i64 (szI (imgsLen l) left)) w := by
  obtain ⟨ds, hv⟩ := hv
  have hk := hv.row.len
  have hm := fun j => sumTo_mono (fun i => (l.getD i DImg.zero).data.length) (i := j) (n := l.length)
  have hs := fun j => (show sumTo (fun i => (l.getD i DImg.zero).data.length) (j + 1) = sumTo (fun i => (l.getD i DImg.zero).data.length) j + (l.getD j DImg.zero).data.length from rfl)
  (first | apply SYields.mk | apply SYieldsF.mk | skip); refine s_enter Try.func118 rfl Try.ntmps118 rfl ?_
  repeat' (first | exact rfl | (apply kO; (first | exact ov_pure rfl | (apply kOBin; (first | exact aBin)) | (apply kOCall; (first | (apply kCallF; (first | exact (ov_call rfl (fun w hw => c_szImage (l.getD j DImg.zero) _ _ w (RInts.keep (hv.rd _ (by omega)) (hw.cells rfl)) (by omega))))) | (apply kCallB; (first | exact aBlt | exact aLenR)))) | (apply kOLoad; (first | exact aLdF | exact aLdR)) | exact ov_fieldAddr rfl | (apply kOIdx; (first | exact aIdx)) | exact aRest | exact aNew | exact (ov_field1 (ft := 37) rfl rfl rfl rfl))) | (refine kN ?_; (first | (refine kStore ?_; (first | refine s_store1 _ rfl rfl gpA rfl (by rfl) ?_ | refine s_storeS _ rfl rfl gpA rfl rfl (by rfl) ?_ | refine s_storeS _ rfl rfl gpA rfl (ones_img oiA) (by rfl) ?_)) | refine s_boxS rfl rfl (fun b hb => ?_) | refine s_allocS rfl (fun b hb => ?_) | refine s_box1 rfl rfl rfl (fun b hb => ?_) | refine s_alloc1 rfl rfl (fun b hb => ?_) | refine s_buildSlice0 rfl (fun b hb => ?_) | refine s_buildSlice rfl rfl rfl rfl rfl (fun b hb => ?_) | apply s_step)) | (refine kG ?_; (first | refine s_gyes rfl rfl rfl ?_ | refine s_gno rfl rfl rfl rfl rfl ?_ | ((first | refine s_split_d rfl rfl (fun h => ?_) (fun h => ?_) | refine s_split_n rfl rfl (fun h => ?_) (fun h => ?_)) <;> (try (first | contradiction | (exfalso; omega)))) | refine s_split_nb rfl rfl (fun h => ?_) (fun h => ?_) | refine s_split rfl rfl (fun h => ?_) (fun h => ?_))) | refine l_then ?_ | (refine kC ?_; (first | (refine c_loopV (ι := Nat) (fun j => j ≤ l.length ∧ 0 ≤ left - (l.length + sumTo (fun i => (l.getD i DImg.zero).data.length) j : Nat)) (fun j => [(1, .int .i64 (left - (l.length + sumTo (fun i => (l.getD i DImg.zero).data.length) j : Nat))), (5, .int .i64 (j : Int))]) (fun _ => []) (fun j => l.length - j) 0 ⟨by omega, by simp [sumTo]; omega⟩ rfl (fun _ => rfl) ⟨slook_to rfl (vint_to (by simp [sumTo])), rfl, trivial⟩ (fun w hw => hw) (fun j hj => ?_)) | refine c_seq ?_ | refine c_regionN rfl ?_ | refine c_ret ?_ | (refine kCond ?_; (first | refine c_cond_t rfl ?_ | refine c_cond_f rfl ?_ | ((first | refine c_cond_d rfl (fun h => ?_) (fun h => ?_) | refine c_cond_n rfl (fun h => ?_) (fun h => ?_)) <;> (try (first | contradiction | (exfalso; omega)))) | refine c_cond_nb rfl (fun h => ?_) (fun h => ?_) | refine c_cond rfl (fun h => ?_) (fun h => ?_))) | refine c_block ?_ | refine c_skip ?_ | refine c_exit ?_ | refine c_regionQN rfl rfl (by decide +kernel) ?_)) | apply s_stepQ | (refine kQG ?_; (first | refine s_gyesQ rfl rfl rfl ?_ | refine s_gnoQ rfl rfl rfl rfl rfl ?_ | ((first | refine s_splitQ_d rfl rfl (fun h => ?_) (fun h => ?_) | refine s_splitQ_n rfl rfl (fun h => ?_) (fun h => ?_)) <;> (try (first | contradiction | (exfalso; omega)))) | refine s_splitQ_nb rfl rfl (fun h => ?_) (fun h => ?_) | refine s_splitQ rfl rfl (fun h => ?_) (fun h => ?_))) | refine lQ_then ?_ | refine lQ_ends ?_ | (refine kE ?_; (first | refine e_then_r ?_ | refine e_block_r ?_ | refine e_then_n ?_ | refine e_then_x ?_ | refine e_block_n ?_ | refine e_block_x ?_ | refine e_block_y rfl ?_)) | refine l_ends ?_)
  all_goals try simp only [Int.toNat_natCast, eImg_dflt] at *
  · exact s_leave1 rfl rfl (fun w hw => ⟨ret_int (by unfold szI imgsLen; rw [if_pos (by omega)]), hw.below⟩)
  · have h1 := hs j
    have h2 := hm (j + 1) (by omega)
    exact s_leave1 rfl rfl (fun w hw => ⟨ret_int (by unfold szI at *; unfold imgsLen; rw [if_pos (by split at h <;> omega)]), hw.below⟩)
  · have h1 := hs j
    have h2 := hm (j + 1) (by omega)
    have h3 : szI (l.getD j DImg.zero).data.length (left - (l.length + sumTo (fun i => (l.getD i DImg.zero).data.length) j : Nat)) = left - (l.length + sumTo (fun i => (l.getD i DImg.zero).data.length) (j + 1) : Nat) := by
      unfold szI at *; split at h
      · omega
      · rw [if_neg (by assumption)]; omega
    exact e_round (j + 1) ⟨by omega, by rw [h3] at h; omega⟩ ⟨slook_to rfl (vint_to h3), rfl, (by repeat' first | exact trivial | refine ⟨rfl, ?_⟩)⟩ (fun w hw => hw) (by omega)
  · obtain rfl : j = l.length := by omega
    exact s_leave1 rfl rfl (fun w hw => ⟨ret_int (by unfold szI imgsLen; rw [if_neg (by omega)]), hw.below⟩)
theorem c_szRegionS (v : Value) (l : List (List DRect)) (left : Int) (w : World) (hv : RS eReg w v l) (hl : 0 ≤ left ∧ left ≤ 1048576) : SYields Try.prog 119 #[v, .int .i64 left] (.int .i64 (szI (regsLen l) left)) w := by
  obtain ⟨ds, hv⟩ := hv
  have hk := hv.row.len
  have hm := fun j => sumTo_mono (fun i => (l.getD i []).length) (i := j) (n := l.length)
  have hs := fun j => (show sumTo (fun i => (l.getD i []).length) (j + 1) = sumTo (fun i => (l.getD i []).length) j + (l.getD j []).length from rfl)
  (first | apply SYields.mk | apply SYieldsF.mk | skip); refine s_enter Try.func119 rfl Try.ntmps119 rfl ?_
  repeat' (first | exact rfl | (apply kO; (first | exact ov_pure rfl | (apply kOBin; (first | exact aBin)) | (apply kOCall; (first | (apply kCallF; (first | exact (ov_call rfl (fun w hw => c_szRegion _ (l.getD j []) _ w (eReg.keep (hv.rd _ (by omega)) (hw.cells rfl)) (by omega))))) | (apply kCallB; (first | exact aBlt | exact aLenR)))) | (apply kOLoad; (first | exact aLdF | exact aLdR)) | exact ov_fieldAddr rfl | (apply kOIdx; (first | exact aIdx)) | exact aRest | exact aNew | exact (ov_field1 (ft := 37) rfl rfl rfl rfl))) | (refine kN ?_; (first | (refine kStore ?_; (first | refine s_store1 _ rfl rfl gpA rfl (by rfl) ?_ | refine s_storeS _ rfl rfl gpA rfl rfl (by rfl) ?_ | refine s_storeS _ rfl rfl gpA rfl (ones_img oiA) (by rfl) ?_)) | refine s_boxS rfl rfl (fun b hb => ?_) | refine s_allocS rfl (fun b hb => ?_) | refine s_box1 rfl rfl rfl (fun b hb => ?_) | refine s_alloc1 rfl rfl (fun b hb => ?_) | refine s_buildSlice0 rfl (fun b hb => ?_) | refine s_buildSlice rfl rfl rfl rfl rfl (fun b hb => ?_) | apply s_step)) | (refine kG ?_; (first | refine s_gyes rfl rfl rfl ?_ | refine s_gno rfl rfl rfl rfl rfl ?_ | ((first | refine s_split_d rfl rfl (fun h => ?_) (fun h => ?_) | refine s_split_n rfl rfl (fun h => ?_) (fun h => ?_)) <;> (try (first | contradiction | (exfalso; omega)))) | refine s_split_nb rfl rfl (fun h => ?_) (fun h => ?_) | refine s_split rfl rfl (fun h => ?_) (fun h => ?_))) | refine l_then ?_ | (refine kC ?_; (first | (refine c_loopV (ι := Nat) (fun j => j ≤ l.length ∧ 0 ≤ left - (l.length + sumTo (fun i => (l.getD i []).length) j : Nat)) (fun j => [(1, .int .i64 (left - (l.length + sumTo (fun i => (l.getD i []).length) j : Nat))), (5, .int .i64 (j : Int))]) (fun _ => []) (fun j => l.length - j) 0 ⟨by omega, by simp [sumTo]; omega⟩ rfl (fun _ => rfl) ⟨slook_to rfl (vint_to (by simp [sumTo])), rfl, trivial⟩ (fun w hw => hw) (fun j hj => ?_)) | refine c_seq ?_ | refine c_regionN rfl ?_ | refine c_ret ?_ | (refine kCond ?_; (first | refine c_cond_t rfl ?_ | refine c_cond_f rfl ?_ | ((first | refine c_cond_d rfl (fun h => ?_) (fun h => ?_) | refine c_cond_n rfl (fun h => ?_) (fun h => ?_)) <;> (try (first | contradiction | (exfalso; omega)))) | refine c_cond_nb rfl (fun h => ?_) (fun h => ?_) | refine c_cond rfl (fun h => ?_) (fun h => ?_))) | refine c_block ?_ | refine c_skip ?_ | refine c_exit ?_ | refine c_regionQN rfl rfl (by decide +kernel) ?_)) | apply s_stepQ | (refine kQG ?_; (first | refine s_gyesQ rfl rfl rfl ?_ | refine s_gnoQ rfl rfl rfl rfl rfl ?_ | ((first | refine s_splitQ_d rfl rfl (fun h => ?_) (fun h => ?_) | refine s_splitQ_n rfl rfl (fun h => ?_) (fun h => ?_)) <;> (try (first | contradiction | (exfalso; omega)))) | refine s_splitQ_nb rfl rfl (fun h => ?_) (fun h => ?_) | refine s_splitQ rfl rfl (fun h => ?_) (fun h => ?_))) | refine lQ_then ?_ | refine lQ_ends ?_ | (refine kE ?_; (first | refine e_then_r ?_ | refine e_block_r ?_ | refine e_then_n ?_ | refine e_then_x ?_ | refine e_block_n ?_ | refine e_block_x ?_ | refine e_block_y rfl ?_)) | refine l_ends ?_)
  all_goals try simp only [Int.toNat_natCast, eReg_dflt] at *
  · exact s_leave1 rfl rfl (fun w hw => ⟨ret_int (by unfold szI regsLen; rw [if_pos (by omega)]), hw.below⟩)
  · have h1 := hs j
    have h2 := hm (j + 1) (by omega)
    exact s_leave1 rfl rfl (fun w hw => ⟨ret_int (by unfold szI at *; unfold regsLen; rw [if_pos (by split at h <;> omega)]), hw.below⟩)
  · have h1 := hs j
    have h2 := hm (j + 1) (by omega)
    have h3 : szI (l.getD j []).length (left - (l.length + sumTo (fun i => (l.getD i []).length) j : Nat)) = left - (l.length + sumTo (fun i => (l.getD i []).length) (j + 1) : Nat) := by
      unfold szI at *; split at h
      · omega
      · rw [if_neg (by assumption)]; omega
    exact e_round (j + 1) ⟨by omega, by rw [h3] at h; omega⟩ ⟨slook_to rfl (vint_to h3), rfl, (by repeat' first | exact trivial | refine ⟨rfl, ?_⟩)⟩ (fun w hw => hw) (by omega)
  · obtain rfl : j = l.length := by omega
    exact s_leave1 rfl rfl (fun w hw => ⟨ret_int (by unfold szI regsLen; rw [if_neg (by omega)]), hw.below⟩)
theorem c_szChain (c : DChain) (vb va vd vs : Value) (left : Int) (W : World) (hc : RCh W c vb va vd vs) (hl : 0 ≤ left ∧ left ≤ 1048576) : SYields Try.prog 49 #[vChain c vb va vd vs, .int .i64 left] (.int .i64 (szI (chainLen c) left)) W := by
  obtain ⟨r1, r2, r3, r4⟩ := hc
  have z1 := szI_or (imgsLen c.bufs) left
  have z2 := szI_or c.ages.length (szI (imgsLen c.bufs) left)
  have z3 := szI_or (regsLen c.dams) (szI c.ages.length (szI (imgsLen c.bufs) left))
  have z4 := szI_or (surfsLen c.scene.ss) (szI (regsLen c.dams) (szI c.ages.length (szI (imgsLen c.bufs) left)))
  have z5 := szI_or (chainLen c) left
  have hcl : chainLen c = imgsLen c.bufs + c.ages.length + regsLen c.dams + surfsLen c.scene.ss := rfl
  (first | apply SYields.mk | apply SYieldsF.mk | skip); refine s_enter Try.func49 rfl Try.ntmps49 rfl ?_
  repeat' (first | exact rfl | (apply kO; (first | exact ov_pure rfl | (apply kOBin; (first | exact aBin)) | (apply kOCall; (first | (apply kCallF; (first | exact (ov_call rfl (fun w hw => c_szImageS _ c.bufs _ w (r1.keep (hw.cells rfl)) (by omega))) | exact (ov_call rfl (fun w hw => c_szIntS _ c.ages _ w (r2.keep (hw.cells rfl)) (by omega))) | exact (ov_call rfl (fun w hw => c_szRegionS _ c.dams _ w (r3.keep (hw.cells rfl)) (by omega))) | exact (ov_call rfl (fun w hw => c_szScene c.scene _ _ w (r4.keep (hw.cells rfl)) (by omega))))) | (apply kCallB; (first | exact aBlt | exact aLenR)))) | (apply kOLoad; (first | exact aLdF | exact aLdR)) | exact ov_fieldAddr rfl | (apply kOIdx; (first | exact aIdx)) | exact aRest | exact aNew | exact (ov_field1 (ft := 37) rfl rfl rfl rfl))) | (refine kN ?_; (first | (refine kStore ?_; (first | refine s_store1 _ rfl rfl gpA rfl (by rfl) ?_ | refine s_storeS _ rfl rfl gpA rfl rfl (by rfl) ?_ | refine s_storeS _ rfl rfl gpA rfl (ones_img oiA) (by rfl) ?_)) | refine s_boxS rfl rfl (fun b hb => ?_) | refine s_allocS rfl (fun b hb => ?_) | refine s_box1 rfl rfl rfl (fun b hb => ?_) | refine s_alloc1 rfl rfl (fun b hb => ?_) | refine s_buildSlice0 rfl (fun b hb => ?_) | refine s_buildSlice rfl rfl rfl rfl rfl (fun b hb => ?_) | apply s_step)) | (refine kG ?_; (first | refine s_gyes rfl rfl rfl ?_ | refine s_gno rfl rfl rfl rfl rfl ?_ | ((first | refine s_split_d rfl rfl (fun h => ?_) (fun h => ?_) | refine s_split_n rfl rfl (fun h => ?_) (fun h => ?_)) <;> (try (first | contradiction | (exfalso; omega)))) | refine s_split_nb rfl rfl (fun h => ?_) (fun h => ?_) | refine s_split rfl rfl (fun h => ?_) (fun h => ?_))) | refine l_then ?_ | (refine kC ?_; (first | refine c_seq ?_ | refine c_regionN rfl ?_ | refine c_ret ?_ | (refine kCond ?_; (first | refine c_cond_t rfl ?_ | refine c_cond_f rfl ?_ | ((first | refine c_cond_d rfl (fun h => ?_) (fun h => ?_) | refine c_cond_n rfl (fun h => ?_) (fun h => ?_)) <;> (try (first | contradiction | (exfalso; omega)))) | refine c_cond_nb rfl (fun h => ?_) (fun h => ?_) | refine c_cond rfl (fun h => ?_) (fun h => ?_))) | refine c_block ?_ | refine c_skip ?_ | refine c_exit ?_ | refine c_regionQN rfl rfl (by decide +kernel) ?_)) | apply s_stepQ | (refine kQG ?_; (first | refine s_gyesQ rfl rfl rfl ?_ | refine s_gnoQ rfl rfl rfl rfl rfl ?_ | ((first | refine s_splitQ_d rfl rfl (fun h => ?_) (fun h => ?_) | refine s_splitQ_n rfl rfl (fun h => ?_) (fun h => ?_)) <;> (try (first | contradiction | (exfalso; omega)))) | refine s_splitQ_nb rfl rfl (fun h => ?_) (fun h => ?_) | refine s_splitQ rfl rfl (fun h => ?_) (fun h => ?_))) | refine lQ_then ?_ | refine lQ_ends ?_ | (refine kE ?_; (first | refine e_then_r ?_ | refine e_block_r ?_ | refine e_then_n ?_ | refine e_then_x ?_ | refine e_block_n ?_ | refine e_block_x ?_ | refine e_block_y rfl ?_)) | refine l_ends ?_)
  all_goals refine s_leave1 rfl rfl (fun w hw => ⟨?_, hw.below⟩)
  all_goals (refine ret_int ?_; omega)
theorem c_eqImageS (u v : Value) (k l : List DImg) (w : World) (hu : RS eImg w u k) (hv : RS eImg w v l) : SYields Try.prog 125 #[u, v] (.bool (decide (k = l))) w := by
  obtain ⟨ds, hu⟩ := hu
  obtain ⟨es, hv⟩ := hv
  have hk := hu.row.len
  have hl := hv.row.len
  (first | apply SYields.mk | apply SYieldsF.mk | skip); refine s_enter Try.func125 rfl Try.ntmps125 rfl ?_
  repeat' (first | exact rfl | (apply kO; (first | exact ov_pure rfl | (apply kOBin; (first | exact aBin)) | (apply kOCall; (first | (apply kCallF; (first | exact (ov_call rfl (fun w hw => c_eqImage (k.getD j DImg.zero) (l.getD j DImg.zero) _ _ w (RInts.keep (hu.rd _ (by omega)) (hw.cells rfl)) (RInts.keep (hv.rd _ (by omega)) (hw.cells rfl)))))) | (apply kCallB; (first | exact aBlt | exact (ov_lenR (fun w hw => hu.row.keep (hw.cells rfl)) rfl) | exact (ov_lenR (fun w hw => hv.row.keep (hw.cells rfl)) rfl) | exact aLenR)))) | (apply kOLoad; (first | exact (ov_ldRZ (fun w hw => hu.row.keep (hw.cells rfl)) rfl rfl (by omega) rfl) | exact (ov_ldRZ (fun w hw => hv.row.keep (hw.cells rfl)) rfl rfl (by omega) rfl) | exact aLdF | exact aLdR)) | exact ov_fieldAddr rfl | (apply kOIdx; (first | exact (ov_idxR (fun w hw => hu.row.keep (hw.cells rfl)) rfl rfl (by omega)) | exact (ov_idxR (fun w hw => hv.row.keep (hw.cells rfl)) rfl rfl (by omega)) | exact aIdx)) | exact aRest | exact aNew | exact (ov_field1 (ft := 37) rfl rfl rfl rfl))) | (refine kN ?_; (first | (refine kStore ?_; (first | refine s_store1 _ rfl rfl gpA rfl (by rfl) ?_ | refine s_storeS _ rfl rfl gpA rfl rfl (by rfl) ?_ | refine s_storeS _ rfl rfl gpA rfl (ones_img oiA) (by rfl) ?_)) | refine s_boxS rfl rfl (fun b hb => ?_) | refine s_allocS rfl (fun b hb => ?_) | refine s_box1 rfl rfl rfl (fun b hb => ?_) | refine s_alloc1 rfl rfl (fun b hb => ?_) | refine s_buildSlice0 rfl (fun b hb => ?_) | refine s_buildSlice rfl rfl rfl rfl rfl (fun b hb => ?_) | apply s_step)) | (refine kG ?_; (first | refine s_gyes rfl rfl rfl ?_ | refine s_gno rfl rfl rfl rfl rfl ?_ | ((first | refine s_split_d rfl rfl (fun h => ?_) (fun h => ?_) | refine s_split_n rfl rfl (fun h => ?_) (fun h => ?_)) <;> (try (first | contradiction | (exfalso; omega)))) | refine s_split_nb rfl rfl (fun h => ?_) (fun h => ?_) | refine s_split rfl rfl (fun h => ?_) (fun h => ?_))) | refine l_then ?_ | (refine kC ?_; (first | (refine c_loopV (ι := Nat) (fun j => j ≤ k.length ∧ eqTo k l DImg.zero j) (fun j => [(5, .int .i64 (j : Int))]) (fun _ => []) (fun j => k.length - j) 0 ⟨by omega, eqTo_zero _ _ _⟩ rfl (fun _ => rfl) ⟨rfl, trivial⟩ (fun w hw => hw) (fun j hj => ?_)) | refine c_seq ?_ | refine c_regionN rfl ?_ | refine c_ret ?_ | (refine kCond ?_; (first | refine c_cond_t rfl ?_ | refine c_cond_f rfl ?_ | ((first | refine c_cond_d rfl (fun h => ?_) (fun h => ?_) | refine c_cond_n rfl (fun h => ?_) (fun h => ?_)) <;> (try (first | contradiction | (exfalso; omega)))) | refine c_cond_nb rfl (fun h => ?_) (fun h => ?_) | refine c_cond rfl (fun h => ?_) (fun h => ?_))) | refine c_block ?_ | refine c_skip ?_ | refine c_exit ?_ | refine c_regionQN rfl rfl (by decide +kernel) ?_)) | apply s_stepQ | (refine kQG ?_; (first | refine s_gyesQ rfl rfl rfl ?_ | refine s_gnoQ rfl rfl rfl rfl rfl ?_ | ((first | refine s_splitQ_d rfl rfl (fun h => ?_) (fun h => ?_) | refine s_splitQ_n rfl rfl (fun h => ?_) (fun h => ?_)) <;> (try (first | contradiction | (exfalso; omega)))) | refine s_splitQ_nb rfl rfl (fun h => ?_) (fun h => ?_) | refine s_splitQ rfl rfl (fun h => ?_) (fun h => ?_))) | refine lQ_then ?_ | refine lQ_ends ?_ | (refine kE ?_; (first | refine e_then_r ?_ | refine e_block_r ?_ | refine e_then_n ?_ | refine e_then_x ?_ | refine e_block_n ?_ | refine e_block_x ?_ | refine e_block_y rfl ?_)) | refine l_ends ?_)
  all_goals try simp only [Int.toNat_natCast, eImg_dflt] at *
  · exact s_leave1 rfl rfl (fun w hw => ⟨ret_false (ne_of_len (by omega)), hw.below⟩)
  · exact s_leave1 rfl rfl (fun w hw => ⟨ret_false (fun e => by subst e; contradiction), hw.below⟩)
  · exact e_round (j + 1) ⟨by omega, eqTo_next hj.2 (by assumption)⟩ ⟨rfl, (by repeat' first | exact trivial | refine ⟨rfl, ?_⟩)⟩ (fun w hw => hw) (by omega)
  · exact s_leave1 rfl rfl (fun w hw => ⟨ret_true (list_eq_of_getD DImg.zero (by omega) (fun i hi => hj.2 i (by omega))), hw.below⟩)
theorem c_eqRegionS (u v : Value) (k l : List (List DRect)) (w : World) (hu : RS eReg w u k) (hv : RS eReg w v l) : SYields Try.prog 126 #[u, v] (.bool (decide (k = l))) w := by
  obtain ⟨ds, hu⟩ := hu
  obtain ⟨es, hv⟩ := hv
  have hk := hu.row.len
  have hl := hv.row.len
  (first | apply SYields.mk | apply SYieldsF.mk | skip); refine s_enter Try.func126 rfl Try.ntmps126 rfl ?_
  repeat' (first | exact rfl | (apply kO; (first | exact ov_pure rfl | (apply kOBin; (first | exact aBin)) | (apply kOCall; (first | (apply kCallF; (first | exact (ov_call rfl (fun w hw => c_eqRegion _ _ (k.getD j []) (l.getD j []) w (eReg.keep (hu.rd _ (by omega)) (hw.cells rfl)) (eReg.keep (hv.rd _ (by omega)) (hw.cells rfl)))))) | (apply kCallB; (first | exact aBlt | exact (ov_lenR (fun w hw => hu.row.keep (hw.cells rfl)) rfl) | exact (ov_lenR (fun w hw => hv.row.keep (hw.cells rfl)) rfl) | exact aLenR)))) | (apply kOLoad; (first | exact (ov_ldRZ (fun w hw => hu.row.keep (hw.cells rfl)) rfl rfl (by omega) rfl) | exact (ov_ldRZ (fun w hw => hv.row.keep (hw.cells rfl)) rfl rfl (by omega) rfl) | exact aLdF | exact aLdR)) | exact ov_fieldAddr rfl | (apply kOIdx; (first | exact (ov_idxR (fun w hw => hu.row.keep (hw.cells rfl)) rfl rfl (by omega)) | exact (ov_idxR (fun w hw => hv.row.keep (hw.cells rfl)) rfl rfl (by omega)) | exact aIdx)) | exact aRest | exact aNew | exact (ov_field1 (ft := 37) rfl rfl rfl rfl))) | (refine kN ?_; (first | (refine kStore ?_; (first | refine s_store1 _ rfl rfl gpA rfl (by rfl) ?_ | refine s_storeS _ rfl rfl gpA rfl rfl (by rfl) ?_ | refine s_storeS _ rfl rfl gpA rfl (ones_img oiA) (by rfl) ?_)) | refine s_boxS rfl rfl (fun b hb => ?_) | refine s_allocS rfl (fun b hb => ?_) | refine s_box1 rfl rfl rfl (fun b hb => ?_) | refine s_alloc1 rfl rfl (fun b hb => ?_) | refine s_buildSlice0 rfl (fun b hb => ?_) | refine s_buildSlice rfl rfl rfl rfl rfl (fun b hb => ?_) | apply s_step)) | (refine kG ?_; (first | refine s_gyes rfl rfl rfl ?_ | refine s_gno rfl rfl rfl rfl rfl ?_ | ((first | refine s_split_d rfl rfl (fun h => ?_) (fun h => ?_) | refine s_split_n rfl rfl (fun h => ?_) (fun h => ?_)) <;> (try (first | contradiction | (exfalso; omega)))) | refine s_split_nb rfl rfl (fun h => ?_) (fun h => ?_) | refine s_split rfl rfl (fun h => ?_) (fun h => ?_))) | refine l_then ?_ | (refine kC ?_; (first | (refine c_loopV (ι := Nat) (fun j => j ≤ k.length ∧ eqTo k l [] j) (fun j => [(5, .int .i64 (j : Int))]) (fun _ => []) (fun j => k.length - j) 0 ⟨by omega, eqTo_zero _ _ _⟩ rfl (fun _ => rfl) ⟨rfl, trivial⟩ (fun w hw => hw) (fun j hj => ?_)) | refine c_seq ?_ | refine c_regionN rfl ?_ | refine c_ret ?_ | (refine kCond ?_; (first | refine c_cond_t rfl ?_ | refine c_cond_f rfl ?_ | ((first | refine c_cond_d rfl (fun h => ?_) (fun h => ?_) | refine c_cond_n rfl (fun h => ?_) (fun h => ?_)) <;> (try (first | contradiction | (exfalso; omega)))) | refine c_cond_nb rfl (fun h => ?_) (fun h => ?_) | refine c_cond rfl (fun h => ?_) (fun h => ?_))) | refine c_block ?_ | refine c_skip ?_ | refine c_exit ?_ | refine c_regionQN rfl rfl (by decide +kernel) ?_)) | apply s_stepQ | (refine kQG ?_; (first | refine s_gyesQ rfl rfl rfl ?_ | refine s_gnoQ rfl rfl rfl rfl rfl ?_ | ((first | refine s_splitQ_d rfl rfl (fun h => ?_) (fun h => ?_) | refine s_splitQ_n rfl rfl (fun h => ?_) (fun h => ?_)) <;> (try (first | contradiction | (exfalso; omega)))) | refine s_splitQ_nb rfl rfl (fun h => ?_) (fun h => ?_) | refine s_splitQ rfl rfl (fun h => ?_) (fun h => ?_))) | refine lQ_then ?_ | refine lQ_ends ?_ | (refine kE ?_; (first | refine e_then_r ?_ | refine e_block_r ?_ | refine e_then_n ?_ | refine e_then_x ?_ | refine e_block_n ?_ | refine e_block_x ?_ | refine e_block_y rfl ?_)) | refine l_ends ?_)
  all_goals try simp only [Int.toNat_natCast, eReg_dflt] at *
  · exact s_leave1 rfl rfl (fun w hw => ⟨ret_false (ne_of_len (by omega)), hw.below⟩)
  · exact s_leave1 rfl rfl (fun w hw => ⟨ret_false (fun e => by subst e; contradiction), hw.below⟩)
  · exact e_round (j + 1) ⟨by omega, eqTo_next hj.2 (by assumption)⟩ ⟨rfl, (by repeat' first | exact trivial | refine ⟨rfl, ?_⟩)⟩ (fun w hw => hw) (by omega)
  · exact s_leave1 rfl rfl (fun w hw => ⟨ret_true (list_eq_of_getD [] (by omega) (fun i hi => hj.2 i (by omega))), hw.below⟩)
theorem DChain.eq {a b : DChain} (h1 : a.bufs = b.bufs) (h2 : a.ages = b.ages) (h3 : a.dams = b.dams) (h4 : a.scene = b.scene) : a = b := by cases a; cases b; simp_all
theorem c_eqChain (c e : DChain) (b1 a1 d1 s1 b2 a2 d2 s2 : Value) (W : World) (h1 : RCh W c b1 a1 d1 s1) (h2 : RCh W e b2 a2 d2 s2) : SYields Try.prog 53 #[vChain c b1 a1 d1 s1, vChain e b2 a2 d2 s2] (.bool (decide (c = e))) W := by
  obtain ⟨p1, p2, p3, p4⟩ := h1
  obtain ⟨q1, q2, q3, q4⟩ := h2
  (first | apply SYields.mk | apply SYieldsF.mk | skip); refine s_enter Try.func53 rfl Try.ntmps53 rfl ?_
  repeat' (first | exact rfl | (apply kO; (first | exact ov_pure rfl | (apply kOBin; (first | exact aBin)) | (apply kOCall; (first | (apply kCallF; (first | exact (ov_call rfl (fun w hw => c_eqImageS _ _ c.bufs e.bufs w (p1.keep (hw.cells rfl)) (q1.keep (hw.cells rfl)))) | exact (ov_call rfl (fun w hw => c_eqIntS _ _ c.ages e.ages w (p2.keep (hw.cells rfl)) (q2.keep (hw.cells rfl)))) | exact (ov_call rfl (fun w hw => c_eqRegionS _ _ c.dams e.dams w (p3.keep (hw.cells rfl)) (q3.keep (hw.cells rfl)))) | exact (ov_call rfl (fun w hw => c_eqScene c.scene e.scene _ _ w (p4.keep (hw.cells rfl)) (q4.keep (hw.cells rfl)))))) | (apply kCallB; (first | exact aBlt | exact aLenR)))) | (apply kOLoad; (first | exact aLdF | exact aLdR)) | exact ov_fieldAddr rfl | (apply kOIdx; (first | exact aIdx)) | exact aRest | exact aNew | exact (ov_field1 (ft := 37) rfl rfl rfl rfl))) | (refine kN ?_; (first | (refine kStore ?_; (first | refine s_store1 _ rfl rfl gpA rfl (by rfl) ?_ | refine s_storeS _ rfl rfl gpA rfl rfl (by rfl) ?_ | refine s_storeS _ rfl rfl gpA rfl (ones_img oiA) (by rfl) ?_)) | refine s_boxS rfl rfl (fun b hb => ?_) | refine s_allocS rfl (fun b hb => ?_) | refine s_box1 rfl rfl rfl (fun b hb => ?_) | refine s_alloc1 rfl rfl (fun b hb => ?_) | refine s_buildSlice0 rfl (fun b hb => ?_) | refine s_buildSlice rfl rfl rfl rfl rfl (fun b hb => ?_) | apply s_step)) | (refine kG ?_; (first | refine s_gyes rfl rfl rfl ?_ | refine s_gno rfl rfl rfl rfl rfl ?_ | ((first | refine s_split_d rfl rfl (fun h => ?_) (fun h => ?_) | refine s_split_n rfl rfl (fun h => ?_) (fun h => ?_)) <;> (try (first | contradiction | (exfalso; omega)))) | refine s_split_nb rfl rfl (fun h => ?_) (fun h => ?_) | refine s_split rfl rfl (fun h => ?_) (fun h => ?_))) | refine l_then ?_ | (refine kC ?_; (first | refine c_seq ?_ | refine c_regionN rfl ?_ | refine c_ret ?_ | (refine kCond ?_; (first | refine c_cond_t rfl ?_ | refine c_cond_f rfl ?_ | ((first | refine c_cond_d rfl (fun h => ?_) (fun h => ?_) | refine c_cond_n rfl (fun h => ?_) (fun h => ?_)) <;> (try (first | contradiction | (exfalso; omega)))) | refine c_cond_nb rfl (fun h => ?_) (fun h => ?_) | refine c_cond rfl (fun h => ?_) (fun h => ?_))) | refine c_block ?_ | refine c_skip ?_ | refine c_exit ?_ | refine c_regionQN rfl rfl (by decide +kernel) ?_)) | apply s_stepQ | (refine kQG ?_; (first | refine s_gyesQ rfl rfl rfl ?_ | refine s_gnoQ rfl rfl rfl rfl rfl ?_ | ((first | refine s_splitQ_d rfl rfl (fun h => ?_) (fun h => ?_) | refine s_splitQ_n rfl rfl (fun h => ?_) (fun h => ?_)) <;> (try (first | contradiction | (exfalso; omega)))) | refine s_splitQ_nb rfl rfl (fun h => ?_) (fun h => ?_) | refine s_splitQ rfl rfl (fun h => ?_) (fun h => ?_))) | refine lQ_then ?_ | refine lQ_ends ?_ | (refine kE ?_; (first | refine e_then_r ?_ | refine e_block_r ?_ | refine e_then_n ?_ | refine e_then_x ?_ | refine e_block_n ?_ | refine e_block_x ?_ | refine e_block_y rfl ?_)) | refine l_ends ?_)
  all_goals refine s_leave1 rfl rfl (fun w hw => ⟨?_, hw.below⟩)
  all_goals first | exact ret_false (fun e => by subst e; contradiction) | exact ret_true (DChain.eq (by assumption) (by assumption) (by assumption) (by assumption))
end Go.Proofs.Ytakijgpoaeggnaa
