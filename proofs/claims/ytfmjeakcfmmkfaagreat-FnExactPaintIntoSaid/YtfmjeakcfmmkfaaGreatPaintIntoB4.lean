/-
  Texts that the law stands on, part 4: L12, L13, L14, M15, M12, M16, L20, L23, KW.
-/
import Derived.Test.YtfmjeakcfmmkfaaGreatPaintIntoB3
/-
  Contract: the canonical form of a grid, by the reference.
-/
set_option linter.unusedVariables false
namespace Go.Proofs.YtfmjeakcfmmkfaaGreat
open Go Sx
attribute [local irreducible] Exit.then Exit.inBlock bodyPost Sx.bits canonR rowR gvals sameRow OVs
theorem gv_at3 (g : Grid) {y x z : Nat} (hy : y < 16) (hx : x + z < 16) : (gvals g).getD ((y : Int) * 16 + (x : Int) + (z : Int)).toNat false = g y (x + z) := by
  rw [show ((y : Int) * 16 + (x : Int) + (z : Int)).toNat = y * 16 + (x + z) by omega]; exact gvals_at g hy hx
set_option maxRecDepth 1000000 in
set_option maxHeartbeats 4000000 in
theorem c_l03Canon (v : Value) (g : Grid) (W : World) (hv : RBools W v (gvals g)) : SYieldsF Tryz.prog 213 #[v] (fun u H => OReg u (canon g) H) W := by
  have hgl := gvals_length g
  have hv' := hv.form
  obtain ⟨_, _, rfl⟩ := hv'
  (first | apply SYields.mk | apply SYieldsF.mk | skip); refine s_enter Tryz.func213 rfl Tryz.ntmps213 rfl ?_
  repeat' (first | exact rfl | (apply kO; (first | exact ov_pure rfl | (apply kOBin; (first | exact aBin)) | (apply kOCall; (first | (apply kCallF; (first | exact (ov_call rfl (fun w hw => c_l03Row _ g y.1 (y.1 + e) w (by omega) (by omega) (RRow.keep hv (hw.cells rfl)))))) | (apply kCallB; (first | exact aBlt | exact aLenR)))) | (apply kOLoad; (first | exact (ov_ldR0 (fun w hw => RRow.keep hv (hw.cells rfl)) rfl rfl (by rw [hgl]; omega) rfl) | exact aLdF | exact aLdR)) | exact ov_fieldAddr rfl | (apply kOIdx; (first | exact (ov_idxR (fun w hw => RRow.keep hv (hw.cells rfl)) rfl rfl (by rw [hgl]; omega)) | exact aIdx)) | exact aRest | exact aNew | exact (ov_field1 (ft := 31) rfl rfl rfl rfl))) | (refine kN ?_; (first | (refine kCall ?_; (first | (refine kWApp ?_; (refine s_appendVs _ _ (c := cRect) (kk := 4) (a := ⟨x.1, y.1, (z : Int), (e : Int)⟩) rfl rfl (by assumption) gpA gpA rfl rfl (by rw [scells_eq]; rfl) (by decide) (by omega) (by decide) rfl (fun v' H' hv' => ?_); have f1 := hv'.form; obtain ⟨ua, uc, rfl⟩ := f1)) | apply s_step)) | (refine kStore ?_; (first | (refine s_storeS _ rfl rfl gpA rfl (ones_cons (OVs.one (by assumption)) rfl) (by rfl) ?_) | refine s_store1 _ rfl rfl gpA rfl (by rfl) ?_ | refine s_storeS _ rfl rfl gpA rfl rfl (by rfl) ?_ | refine s_storeS _ rfl rfl gpA rfl (ones_img oiA) (by rfl) ?_)) | refine s_boxS rfl rfl (fun b hb => ?_) | refine s_allocS rfl (fun b hb => ?_) | refine s_box1 rfl rfl rfl (fun b hb => ?_) | refine s_alloc1 rfl rfl (fun b hb => ?_) | refine s_buildSlice0 rfl (fun b hb => ?_) | refine s_buildSlice rfl rfl rfl rfl rfl (fun b hb => ?_) | apply s_step)) | (refine kG ?_; (first | refine s_gyes rfl rfl rfl ?_ | refine s_gno rfl rfl rfl rfl rfl ?_ | ((first | refine s_split_d rfl rfl (fun h => ?_) (fun h => ?_) | refine s_split_n rfl rfl (fun h => ?_) (fun h => ?_)) <;> (try (first | (exfalso; omega)))) | refine s_split_nb rfl rfl (fun h => ?_) (fun h => ?_) | refine s_split rfl rfl (fun h => ?_) (fun h => ?_))) | refine l_then ?_ | (refine kC ?_; (first | (refine kLoop 3 ?_; refine c_loopV (ι := Nat × List DRect × Value × SPiece) (fun y => y.1 ≤ 16 ∧ ORects y.2.2.1 y.2.1 y.2.2.2 ∧ y.2.1 ++ canonR g y.1 = canon g ∧ y.2.1.length ≤ 8 * y.1) (fun y => [(4, .int .i64 (y.1 : Int))]) (fun y => [[(_, srow [y.2.2.1] 43)], y.2.2.2, _]) (fun y => 16 - y.1) (0, [], _, []) ⟨by dsimp only; omega, OVs.nil, (show [] ++ canonR g 0 = canonR g 0 from List.nil_append _), by dsimp only; simp⟩ rfl (fun _ => rfl) ⟨rfl, trivial⟩ (fun w hw => hw.nil1) (fun y hy => ?_); obtain ⟨hy1, hy2, hy3, hy4⟩ := hy) | (refine kLoop 5 ?_; refine c_loopV (ι := Nat) (fun e => (1 ≤ e ∧ y.1 + e ≤ 16) ∧ ∀ z, y.1 < z → z < y.1 + e → z < 16 ∧ sameRow g y.1 z = true) (fun e => [(5, .int .i64 (e : Int))]) (fun e => [_, _, _]) (fun e => 16 - e) 1 ⟨by omega, fun z a c => by omega⟩ rfl (fun _ => rfl) ⟨rfl, trivial⟩ (fun w hw => hw) (fun e he => ?_); obtain ⟨he1, he2⟩ := he) | (refine kLoop 8 ?_; refine c_loopV (ι := Nat × List DRect × Value × SPiece) (fun x => x.1 ≤ 17 ∧ ORects x.2.2.1 x.2.1 x.2.2.2 ∧ x.2.1 ++ (rowR (g y.1) y.1 (e : Int) x.1 ++ canonR g (y.1 + e)) = canon g ∧ x.2.1.length ≤ 8 * y.1 + x.1 / 2) (fun x => [(6, .int .i64 (x.1 : Int))]) (fun x => [[(_, srow [x.2.2.1] 43)], x.2.2.2, _]) (fun x => 17 - x.1) (0, y.2.1, y.2.2.1, y.2.2.2) ⟨by dsimp only; omega, hy2, by dsimp only; rw [← hy3, canonR_step (g := g) (y := y.1) (by omega), hgt_of (e := y.1 + e) (by omega) he2 (fun hh => by first | omega | exact absurd hh.2 (by assumption) | exact absurd hh.2 (Bool.eq_false_iff.1 (by assumption))), show y.1 + e - y.1 = e by omega], by dsimp only; omega⟩ rfl (fun _ => rfl) ⟨rfl, trivial⟩ (fun w hw => hw) (fun x hx => ?_); obtain ⟨hx1, hx2, hx3, hx4⟩ := hx) | (refine kLoop 10 ?_; refine c_loopV (ι := Nat) (fun z => x.1 + z ≤ 16 ∧ ∀ i, x.1 ≤ i → i < x.1 + z → i < 16 ∧ g y.1 i = true) (fun z => [(7, .int .i64 (z : Int))]) (fun z => [_, _, _]) (fun z => 16 - z) 0 ⟨by omega, fun i a c => by omega⟩ rfl (fun _ => rfl) ⟨rfl, trivial⟩ (fun w hw => hw) (fun z hz => ?_); obtain ⟨hz1, hz2⟩ := hz) | refine c_seq ?_ | refine c_regionN rfl ?_ | refine c_ret ?_ | (refine kCond ?_; (first | refine c_cond_t rfl ?_ | refine c_cond_f rfl ?_ | ((first | refine c_cond_d rfl (fun h => ?_) (fun h => ?_) | refine c_cond_n rfl (fun h => ?_) (fun h => ?_)) <;> (try (first | (exfalso; omega)))) | refine c_cond_nb rfl (fun h => ?_) (fun h => ?_) | refine c_cond rfl (fun h => ?_) (fun h => ?_))) | refine c_block ?_ | refine c_skip ?_ | refine c_exit ?_ | refine c_regionQN rfl rfl (by decide +kernel) ?_)) | apply s_stepQ | (refine kQG ?_; (first | refine s_gyesQ rfl rfl rfl ?_ | refine s_gnoQ rfl rfl rfl rfl rfl ?_ | ((first | refine s_splitQ_d rfl rfl (fun h => ?_) (fun h => ?_) | refine s_splitQ_n rfl rfl (fun h => ?_) (fun h => ?_)) <;> (try (first | (exfalso; omega)))) | refine s_splitQ_nb rfl rfl (fun h => ?_) (fun h => ?_) | refine s_splitQ rfl rfl (fun h => ?_) (fun h => ?_))) | refine lQ_then ?_ | refine lQ_ends ?_ | (refine kE ?_; (first | refine e_then_r ?_ | refine e_block_r ?_ | refine e_then_n ?_ | refine e_then_x ?_ | refine e_block_n ?_ | refine e_block_x ?_ | refine e_block_y rfl ?_)) | refine l_ends ?_)
  · refine e_round (e + 1) ⟨by omega, fun z a c => ?_⟩ ⟨slook_to rfl (vint_to (by push_cast; rfl)), (by repeat' first | exact trivial | refine ⟨rfl, ?_⟩)⟩ (fun w hw => hw) (by omega)
    by_cases e0 : z = y.1 + e
    · subst e0; exact ⟨by omega, by assumption⟩
    · exact he2 z a (by omega)
  · refine e_round (z + 1) ⟨by omega, fun i a c => ?_⟩ ⟨slook_to rfl (vint_to (by push_cast; rfl)), (by repeat' first | exact trivial | refine ⟨rfl, ?_⟩)⟩ (fun w hw => hw) (by omega)
    by_cases e0 : i = x.1 + z
    · subst e0; exact ⟨by omega, by rw [← gv_at3 g (y := y.1) (x := x.1) (z := z) (by omega) (by omega)]; assumption⟩
    · exact hz2 i a (by omega)
  · have hxz : 0 < z := by omega
    have hn : ¬ (x.1 + z < 16 ∧ g y.1 (x.1 + z) = true) := fun hh => by have hf : g y.1 (x.1 + z) = false := (by rw [← gv_at3 g (y := y.1) (x := x.1) (z := z) (by omega) (by omega)]; assumption); rw [hf] at hh; exact absurd hh.2 Bool.false_ne_true
    refine e_round (x.1 + z + 1, _, _, H') ⟨by dsimp only; omega, hv', ?_, by dsimp only; rw [List.length_append, List.length_singleton]; omega⟩ ⟨slook_to rfl (vint_to (by push_cast; rfl)), (by repeat' first | exact trivial | refine ⟨rfl, ?_⟩)⟩ (fun w hw => hw.sub (selO_sub [false, true, true, true] _ _ rfl)) (by dsimp only; omega)
    dsimp only
    rw [← hx3, rowR_app (f := g y.1) (y := y.1) (h := (e : Int)) (x := x.1) (z := x.1 + z) (by omega) (by omega) hz2 hn, show (((x.1 + z : Nat) : Int) - (x.1 : Int)) = (z : Int) by omega, List.append_assoc, List.append_assoc]
  · have hxz : z = 0 := by omega
    subst hxz
    have hn : ¬ (x.1 < 16 ∧ g y.1 x.1 = true) := fun hh => by have hf : g y.1 (x.1 + 0) = false := (by rw [← gv_at3 g (y := y.1) (x := x.1) (z := 0) (by omega) (by omega)]; assumption); rw [Nat.add_zero] at hf; rw [hf] at hh; exact absurd hh.2 Bool.false_ne_true
    refine e_round (x.1 + 1, x.2.1, x.2.2.1, x.2.2.2) ⟨by dsimp only; omega, hx2, ?_, by dsimp only; omega⟩ ⟨slook_to rfl (vint_to (by push_cast; omega)), (by repeat' first | exact trivial | refine ⟨rfl, ?_⟩)⟩ (fun w hw => hw) (by dsimp only; omega)
    dsimp only
    rw [← rowR_skip (f := g y.1) (y := y.1) (h := (e : Int)) (by omega) hn]; exact hx3
  · have hxz : 0 < z := by omega
    have hn : ¬ (x.1 + z < 16 ∧ g y.1 (x.1 + z) = true) := fun hh => by omega
    refine e_round (x.1 + z + 1, _, _, H') ⟨by dsimp only; omega, hv', ?_, by dsimp only; rw [List.length_append, List.length_singleton]; omega⟩ ⟨slook_to rfl (vint_to (by push_cast; rfl)), (by repeat' first | exact trivial | refine ⟨rfl, ?_⟩)⟩ (fun w hw => hw.sub (selO_sub [false, true, true, true] _ _ rfl)) (by dsimp only; omega)
    dsimp only
    rw [← hx3, rowR_app (f := g y.1) (y := y.1) (h := (e : Int)) (x := x.1) (z := x.1 + z) (by omega) (by omega) hz2 hn, show (((x.1 + z : Nat) : Int) - (x.1 : Int)) = (z : Int) by omega, List.append_assoc, List.append_assoc]
  · rw [rowR_done (by omega), List.nil_append] at hx3
    exact e_round (y.1 + e, x.2.1, x.2.2.1, x.2.2.2) ⟨by dsimp only; omega, hx2, hx3, by dsimp only; omega⟩ ⟨slook_to rfl (vint_to (by push_cast; rfl)), (by repeat' first | exact trivial | refine ⟨rfl, ?_⟩)⟩ (fun w hw => hw) (by dsimp only; omega)
  · refine e_round (z + 1) ⟨by omega, fun i a c => ?_⟩ ⟨slook_to rfl (vint_to (by push_cast; rfl)), (by repeat' first | exact trivial | refine ⟨rfl, ?_⟩)⟩ (fun w hw => hw) (by omega)
    by_cases e0 : i = x.1 + z
    · subst e0; exact ⟨by omega, by rw [← gv_at3 g (y := y.1) (x := x.1) (z := z) (by omega) (by omega)]; assumption⟩
    · exact hz2 i a (by omega)
  · have hxz : 0 < z := by omega
    have hn : ¬ (x.1 + z < 16 ∧ g y.1 (x.1 + z) = true) := fun hh => by have hf : g y.1 (x.1 + z) = false := (by rw [← gv_at3 g (y := y.1) (x := x.1) (z := z) (by omega) (by omega)]; assumption); rw [hf] at hh; exact absurd hh.2 Bool.false_ne_true
    refine e_round (x.1 + z + 1, _, _, H') ⟨by dsimp only; omega, hv', ?_, by dsimp only; rw [List.length_append, List.length_singleton]; omega⟩ ⟨slook_to rfl (vint_to (by push_cast; rfl)), (by repeat' first | exact trivial | refine ⟨rfl, ?_⟩)⟩ (fun w hw => hw.sub (selO_sub [false, true, true, true] _ _ rfl)) (by dsimp only; omega)
    dsimp only
    rw [← hx3, rowR_app (f := g y.1) (y := y.1) (h := (e : Int)) (x := x.1) (z := x.1 + z) (by omega) (by omega) hz2 hn, show (((x.1 + z : Nat) : Int) - (x.1 : Int)) = (z : Int) by omega, List.append_assoc, List.append_assoc]
  · have hxz : z = 0 := by omega
    subst hxz
    have hn : ¬ (x.1 < 16 ∧ g y.1 x.1 = true) := fun hh => by have hf : g y.1 (x.1 + 0) = false := (by rw [← gv_at3 g (y := y.1) (x := x.1) (z := 0) (by omega) (by omega)]; assumption); rw [Nat.add_zero] at hf; rw [hf] at hh; exact absurd hh.2 Bool.false_ne_true
    refine e_round (x.1 + 1, x.2.1, x.2.2.1, x.2.2.2) ⟨by dsimp only; omega, hx2, ?_, by dsimp only; omega⟩ ⟨slook_to rfl (vint_to (by push_cast; omega)), (by repeat' first | exact trivial | refine ⟨rfl, ?_⟩)⟩ (fun w hw => hw) (by dsimp only; omega)
    dsimp only
    rw [← rowR_skip (f := g y.1) (y := y.1) (h := (e : Int)) (by omega) hn]; exact hx3
  · have hxz : 0 < z := by omega
    have hn : ¬ (x.1 + z < 16 ∧ g y.1 (x.1 + z) = true) := fun hh => by omega
    refine e_round (x.1 + z + 1, _, _, H') ⟨by dsimp only; omega, hv', ?_, by dsimp only; rw [List.length_append, List.length_singleton]; omega⟩ ⟨slook_to rfl (vint_to (by push_cast; rfl)), (by repeat' first | exact trivial | refine ⟨rfl, ?_⟩)⟩ (fun w hw => hw.sub (selO_sub [false, true, true, true] _ _ rfl)) (by dsimp only; omega)
    dsimp only
    rw [← hx3, rowR_app (f := g y.1) (y := y.1) (h := (e : Int)) (x := x.1) (z := x.1 + z) (by omega) (by omega) hz2 hn, show (((x.1 + z : Nat) : Int) - (x.1 : Int)) = (z : Int) by omega, List.append_assoc, List.append_assoc]
  · rw [rowR_done (by omega), List.nil_append] at hx3
    exact e_round (y.1 + e, x.2.1, x.2.2.1, x.2.2.2) ⟨by dsimp only; omega, hx2, hx3, by dsimp only; omega⟩ ⟨slook_to rfl (vint_to (by push_cast; rfl)), (by repeat' first | exact trivial | refine ⟨rfl, ?_⟩)⟩ (fun w hw => hw) (by dsimp only; omega)
  · have e0 : y.1 = 16 := by omega
    rw [e0, canonR_done (by omega), List.append_nil] at hy3
    rw [hy3] at hy2
    exact s_leaveSF rfl rfl rfl fwA (fun w hw => ⟨_, _, rfl, ⟨_, rfl, hy2⟩, hw.toFresh (H := y.2.2.2) gpA⟩)
end Go.Proofs.YtfmjeakcfmmkfaaGreat
/-
  Contracts: regions of the reference.
-/
set_option linter.unusedVariables false
namespace Go.Proofs.YtfmjeakcfmmkfaaGreat
open Go Sx
attribute [local irreducible] Exit.then Exit.inBlock bodyPost OVs OInts canonR rowR gvals points Sx.canon
theorem gvals_place_get (op : Bool → Bool → Bool) (g f : Grid) {j : Nat} (hj : j < 256) : (gvals (placeG op g f j)).getD j false = g (j / 16) (j % 16) := by
  rw [gvals_get _ hj]; unfold placeG; rw [if_neg (by omega)]
theorem gvals_place_set (op : Bool → Bool → Bool) (g f : Grid) {j : Nat} (hj : j < 256) (q : Bool) (hq : q = op (g (j / 16) (j % 16)) (f (j / 16) (j % 16))) : (gvals (placeG op g f j)).set j q = gvals (placeG op g f (j + 1)) := by
  have := gvals_set (placeG op g f j) (y := j / 16) (x := j % 16) (by omega) (by omega) q
  rw [show j / 16 * 16 + j % 16 = j by omega] at this
  rw [this]
  refine gvals_congr (fun y x hy hx => ?_)
  unfold Grid.put placeG
  by_cases e : y = j / 16 ∧ x = j % 16
  · rw [if_pos e, if_pos (by omega), e.1, e.2]; exact hq
  · rw [if_neg e]
    by_cases e2 : y * 16 + x < j
    · rw [if_pos e2, if_pos (by omega)]
    · rw [if_neg e2, if_neg (by omega)]
set_option maxHeartbeats 4000000 in
theorem c_sregionOf (v : Value) (l : List DRect) (W : World) (hv : RRects W v l) : SYieldsF Tryz.prog 175 #[v] (fun u H => OReg u (canon (points l)) H) W := by
  (first | apply SYields.mk | apply SYieldsF.mk | skip); refine s_enter Tryz.func175 rfl Tryz.ntmps175 rfl ?_
  repeat' (first | exact rfl | (apply kO; (first | exact ov_pure rfl | (apply kOBin; (first | exact aBin)) | (apply kOCall; (first | (apply kCallB; (first | exact aBlt | exact aLenR)))) | (apply kOLoad; (first | exact aLdF | exact aLdR)) | exact ov_fieldAddr rfl | (apply kOIdx; (first | exact aIdx)) | exact aRest | exact aNew | exact (ov_field1 (ft := 31) rfl rfl rfl rfl))) | (refine kN ?_; (first | (refine kCall ?_; (first | (refine kWFn 98 ?_; (refine s_callF (fun u H => OBools u (gvals (points l)) H) rfl (fun w hw => c_l03Grid v l w (hv.keep (hw.cells rfl))) rfl (fun u H hu => ?_))) | (refine kWFn 213 ?_; (refine s_callF (fun u H => OReg u (canon (points l)) H) rfl (fun w hw => c_l03Canon _ (points l) w (OBools.rd (by assumption) (hfA hw))) rfl (fun u H hu => ?_); obtain ⟨d', rfl, hu⟩ := hu)) | apply s_step)) | (refine kStore ?_; (first | (refine s_storeS _ rfl rfl gpA rfl (ones_cons (OVs.one (by assumption)) rfl) (by rfl) ?_) | refine s_store1 _ rfl rfl gpA rfl (by rfl) ?_ | refine s_storeS _ rfl rfl gpA rfl rfl (by rfl) ?_ | refine s_storeS _ rfl rfl gpA rfl (ones_img oiA) (by rfl) ?_)) | refine s_boxS rfl rfl (fun b hb => ?_) | refine s_allocS rfl (fun b hb => ?_) | refine s_box1 rfl rfl rfl (fun b hb => ?_) | refine s_alloc1 rfl rfl (fun b hb => ?_) | refine s_buildSlice0 rfl (fun b hb => ?_) | refine s_buildSlice rfl rfl rfl rfl rfl (fun b hb => ?_) | apply s_step)) | (refine kG ?_; (first | refine s_gyes rfl rfl rfl ?_ | refine s_gno rfl rfl rfl rfl rfl ?_ | ((first | refine s_split_d rfl rfl (fun h => ?_) (fun h => ?_) | refine s_split_n rfl rfl (fun h => ?_) (fun h => ?_)) <;> (try (first | contradiction | (exfalso; omega)))) | refine s_split_nb rfl rfl (fun h => ?_) (fun h => ?_) | refine s_split rfl rfl (fun h => ?_) (fun h => ?_))) | refine l_then ?_ | (refine kC ?_; (first | refine c_seq ?_ | refine c_regionN rfl ?_ | refine c_ret ?_ | (refine kCond ?_; (first | refine c_cond_t rfl ?_ | refine c_cond_f rfl ?_ | ((first | refine c_cond_d rfl (fun h => ?_) (fun h => ?_) | refine c_cond_n rfl (fun h => ?_) (fun h => ?_)) <;> (try (first | contradiction | (exfalso; omega)))) | refine c_cond_nb rfl (fun h => ?_) (fun h => ?_) | refine c_cond rfl (fun h => ?_) (fun h => ?_))) | refine c_block ?_ | refine c_skip ?_ | refine c_exit ?_ | refine c_regionQN rfl rfl (by decide +kernel) ?_)) | apply s_stepQ | (refine kQG ?_; (first | refine s_gyesQ rfl rfl rfl ?_ | refine s_gnoQ rfl rfl rfl rfl rfl ?_ | ((first | refine s_splitQ_d rfl rfl (fun h => ?_) (fun h => ?_) | refine s_splitQ_n rfl rfl (fun h => ?_) (fun h => ?_)) <;> (try (first | contradiction | (exfalso; omega)))) | refine s_splitQ_nb rfl rfl (fun h => ?_) (fun h => ?_) | refine s_splitQ rfl rfl (fun h => ?_) (fun h => ?_))) | refine lQ_then ?_ | refine lQ_ends ?_ | (refine kE ?_; (first | refine e_then_r ?_ | refine e_block_r ?_ | refine e_then_n ?_ | refine e_then_x ?_ | refine e_block_n ?_ | refine e_block_x ?_ | refine e_block_y rfl ?_)) | refine l_ends ?_)
  all_goals (refine kE ?_; refine s_leaveSF rfl rfl rfl fwA (fun w hw => ?_))
  all_goals exact ⟨_, _, rfl, ⟨_, rfl, hu⟩, hw.toFresh (H := H) gpA⟩
set_option maxHeartbeats 4000000 in
theorem c_l03Same (u v : Value) (k l : List DRect) (W : World) (hu : RRects W u k) (hv : RRects W v l) : SYields Tryz.prog 212 #[u, v] (.bool (decide (k = l))) W := by
  have hkl := hu.len
  have hll := hv.len
  (first | apply SYields.mk | apply SYieldsF.mk | skip); refine s_enter Tryz.func212 rfl Tryz.ntmps212 rfl ?_
  repeat' (first | exact rfl | (apply kO; (first | exact ov_pure rfl | (apply kOBin; (first | exact aBin)) | (apply kOCall; (first | (apply kCallB; (first | exact aBlt | exact (ov_lenR (fun w hw => RRow.keep hu (hw.cells rfl)) rfl) | exact (ov_lenR (fun w hw => RRow.keep hv (hw.cells rfl)) rfl) | exact aLenR)))) | (apply kOLoad; (first | exact (ov_ldRZ (fun w hw => RRow.keep hu (hw.cells rfl)) rfl rfl (by omega) rfl) | exact (ov_ldRZ (fun w hw => RRow.keep hv (hw.cells rfl)) rfl rfl (by omega) rfl) | exact aLdF | exact aLdR)) | exact ov_fieldAddr rfl | (apply kOIdx; (first | exact (ov_idxR (fun w hw => RRow.keep hu (hw.cells rfl)) rfl rfl (by omega)) | exact (ov_idxR (fun w hw => RRow.keep hv (hw.cells rfl)) rfl rfl (by omega)) | exact aIdx)) | exact aRest | exact (ov_neRect rfl rfl) | exact aNew | exact (ov_field1 (ft := 31) rfl rfl rfl rfl))) | (refine kN ?_; (first | (refine kStore ?_; (first | refine s_store1 _ rfl rfl gpA rfl (by rfl) ?_ | refine s_storeS _ rfl rfl gpA rfl rfl (by rfl) ?_ | refine s_storeS _ rfl rfl gpA rfl (ones_img oiA) (by rfl) ?_)) | refine s_boxS rfl rfl (fun b hb => ?_) | refine s_allocS rfl (fun b hb => ?_) | refine s_box1 rfl rfl rfl (fun b hb => ?_) | refine s_alloc1 rfl rfl (fun b hb => ?_) | refine s_buildSlice0 rfl (fun b hb => ?_) | refine s_buildSlice rfl rfl rfl rfl rfl (fun b hb => ?_) | apply s_step)) | (refine kG ?_; (first | refine s_gyes rfl rfl rfl ?_ | refine s_gno rfl rfl rfl rfl rfl ?_ | ((first | refine s_split_d rfl rfl (fun h => ?_) (fun h => ?_) | refine s_split_n rfl rfl (fun h => ?_) (fun h => ?_)) <;> (try (first | contradiction | (exfalso; omega)))) | refine s_split_nb rfl rfl (fun h => ?_) (fun h => ?_) | refine s_split rfl rfl (fun h => ?_) (fun h => ?_))) | refine l_then ?_ | (refine kC ?_; (first | (refine c_loopV (ι := Nat) (fun j => j ≤ k.length ∧ eqTo k l DRect.zero j) (fun j => [(5, .int .i64 (j : Int))]) (fun _ => []) (fun j => k.length - j) 0 ⟨by omega, eqTo_zero _ _ _⟩ rfl (fun _ => rfl) ⟨rfl, trivial⟩ (fun w hw => hw) (fun j hj => ?_)) | refine c_seq ?_ | refine c_regionN rfl ?_ | refine c_ret ?_ | (refine kCond ?_; (first | refine c_cond_t rfl ?_ | refine c_cond_f rfl ?_ | ((first | refine c_cond_d rfl (fun h => ?_) (fun h => ?_) | refine c_cond_n rfl (fun h => ?_) (fun h => ?_)) <;> (try (first | contradiction | (exfalso; omega)))) | refine c_cond_nb rfl (fun h => ?_) (fun h => ?_) | refine c_cond rfl (fun h => ?_) (fun h => ?_))) | refine c_block ?_ | refine c_skip ?_ | refine c_exit ?_ | refine c_regionQN rfl rfl (by decide +kernel) ?_)) | apply s_stepQ | (refine kQG ?_; (first | refine s_gyesQ rfl rfl rfl ?_ | refine s_gnoQ rfl rfl rfl rfl rfl ?_ | ((first | refine s_splitQ_d rfl rfl (fun h => ?_) (fun h => ?_) | refine s_splitQ_n rfl rfl (fun h => ?_) (fun h => ?_)) <;> (try (first | contradiction | (exfalso; omega)))) | refine s_splitQ_nb rfl rfl (fun h => ?_) (fun h => ?_) | refine s_splitQ rfl rfl (fun h => ?_) (fun h => ?_))) | refine lQ_then ?_ | refine lQ_ends ?_ | (refine kE ?_; (first | refine e_then_r ?_ | refine e_block_r ?_ | refine e_then_n ?_ | refine e_then_x ?_ | refine e_block_n ?_ | refine e_block_x ?_ | refine e_block_y rfl ?_)) | refine l_ends ?_)
  all_goals first
    | exact s_leave1 rfl rfl (fun w hw => ⟨ret_false (ne_of_len (by omega)), hw.below⟩)
    | exact s_leave1 rfl rfl (fun w hw => ⟨ret_false (fun e => by subst e; contradiction), hw.below⟩)
    | exact e_round (j + 1) ⟨by omega, eqTo_next hj.2 (by assumption)⟩ ⟨rfl, (by repeat' first | exact trivial | refine ⟨rfl, ?_⟩)⟩ (fun w hw => hw) (by omega)
    | exact s_leave1 rfl rfl (fun w hw => ⟨ret_true (list_eq_of_getD DRect.zero (by omega) (fun i hi => hj.2 i (by omega))), hw.below⟩)
set_option maxHeartbeats 4000000 in
theorem c_sregionOk (v : Value) (l : List DRect) (W : World) (hv : RRects W v l) : SYields Tryz.prog 173 #[vReg v] (.bool (decide (regionOk l))) W := by
  (first | apply SYields.mk | apply SYieldsF.mk | skip); refine s_enter Tryz.func173 rfl Tryz.ntmps173 rfl ?_
  repeat' (first | exact rfl | (apply kO; (first | exact ov_pure rfl | (apply kOBin; (first | exact aBin)) | (apply kOCall; (first | (apply kCallF; (first | exact (ov_call rfl (fun w hw => c_l03Same _ _ (canon (points l)) l w (ORects.rd (by assumption) (hfA hw)) (RVs.keep hv (hw.cells rfl)))))) | (apply kCallB; (first | exact aBlt | exact aLenR)))) | (apply kOLoad; (first | exact aLdF | exact aLdR)) | exact ov_fieldAddr rfl | (apply kOIdx; (first | exact aIdx)) | exact aRest | exact (ov_field1 (ft := 41) rfl rfl rfl rfl) | exact aNew | exact (ov_field1 (ft := 31) rfl rfl rfl rfl))) | (refine kN ?_; (first | (refine kCall ?_; (first | (refine kWFn 175 ?_; (refine s_callF (fun u H => OReg u (canon (points l)) H) rfl (fun w hw => c_sregionOf v l w (hv.keep (hw.cells rfl))) rfl (fun u H hu => ?_); obtain ⟨d', rfl, hu⟩ := hu)) | apply s_step)) | (refine kStore ?_; (first | refine s_store1 _ rfl rfl gpA rfl (by rfl) ?_ | refine s_storeS _ rfl rfl gpA rfl rfl (by rfl) ?_ | refine s_storeS _ rfl rfl gpA rfl (ones_img oiA) (by rfl) ?_)) | refine s_boxS rfl rfl (fun b hb => ?_) | refine s_allocS rfl (fun b hb => ?_) | refine s_box1 rfl rfl rfl (fun b hb => ?_) | refine s_alloc1 rfl rfl (fun b hb => ?_) | refine s_buildSlice0 rfl (fun b hb => ?_) | refine s_buildSlice rfl rfl rfl rfl rfl (fun b hb => ?_) | apply s_step)) | (refine kG ?_; (first | refine s_gyes rfl rfl rfl ?_ | refine s_gno rfl rfl rfl rfl rfl ?_ | ((first | refine s_split_d rfl rfl (fun h => ?_) (fun h => ?_) | refine s_split_n rfl rfl (fun h => ?_) (fun h => ?_)) <;> (try (first | contradiction | (exfalso; omega)))) | refine s_split_nb rfl rfl (fun h => ?_) (fun h => ?_) | refine s_split rfl rfl (fun h => ?_) (fun h => ?_))) | (refine kS ?_; (first | refine h_exec rfl ?_ | refine h_take_nil rfl rfl rfl ?_ | refine h_take_pick rfl rfl rfl ?_ | refine h_nil ?_ | refine h_alt ?_ ?_ | apply h_take)) | (refine kBack ?_; (first | refine h_back_last rfl ?_ | refine h_backN rfl subA ?_)) | refine l_then ?_ | (refine kC ?_; (first | (refine kReg 1 ?_; refine c_regionSN (SPlan.take 0 (SPlan.take 1 (SPlan.take 4 (SPlan.take 5 (SPlan.run 2 (SPlan.take 3 (SPlan.run 6 (SPlan.take 7 SPlan.done)))))))) none rfl rfl (by decide +kernel) ?_) | refine c_seq ?_ | refine c_regionN rfl ?_ | refine c_ret ?_ | (refine kCond ?_; (first | refine c_cond_t rfl ?_ | refine c_cond_f rfl ?_ | ((first | refine c_cond_d rfl (fun h => ?_) (fun h => ?_) | refine c_cond_n rfl (fun h => ?_) (fun h => ?_)) <;> (try (first | contradiction | (exfalso; omega)))) | refine c_cond_nb rfl (fun h => ?_) (fun h => ?_) | refine c_cond rfl (fun h => ?_) (fun h => ?_))) | refine c_block ?_ | refine c_skip ?_ | refine c_exit ?_ | refine c_regionQN rfl rfl (by decide +kernel) ?_)) | apply s_stepQ | (refine kQG ?_; (first | refine s_gyesQ rfl rfl rfl ?_ | refine s_gnoQ rfl rfl rfl rfl rfl ?_ | ((first | refine s_splitQ_d rfl rfl (fun h => ?_) (fun h => ?_) | refine s_splitQ_n rfl rfl (fun h => ?_) (fun h => ?_)) <;> (try (first | contradiction | (exfalso; omega)))) | refine s_splitQ_nb rfl rfl (fun h => ?_) (fun h => ?_) | refine s_splitQ rfl rfl (fun h => ?_) (fun h => ?_))) | refine lQ_then ?_ | refine lQ_ends ?_ | (refine kE ?_; (first | refine e_then_r ?_ | refine e_block_r ?_ | refine e_then_n ?_ | refine e_then_x ?_ | refine e_block_n ?_ | refine e_block_x ?_ | refine e_block_y rfl ?_)) | refine l_ends ?_)
  all_goals refine s_leave1 rfl rfl (fun w hw => ⟨ret_dec Iff.rfl, hw.below⟩)
set_option maxRecDepth 1000000 in
set_option maxHeartbeats 4000000 in
theorem c_l03Join (va vb : Value) (a c : List DRect) (kind : Int) (W : World) (ha : RRects W va a) (hc : RRects W vb c) : SYieldsF Tryz.prog 174 #[vReg va, vReg vb, .int .i64 kind] (fun u H => OReg u (joinOf kind a c) H) W := by
  have hgl := fun g => gvals_length g
  have hga := gvals_length (points a)
  have hgc := gvals_length (points c)
  by_cases hok : regionOk a ∧ regionOk c
  · have hj0 : joinOf kind a c = canon (fun y x => joinOp kind (points a y x) (points c y x)) := by unfold joinOf; rw [if_pos hok]
    rw [hj0]
    (first | apply SYields.mk | apply SYieldsF.mk | skip); refine s_enter Tryz.func174 rfl Tryz.ntmps174 rfl ?_
    repeat' (first | exact rfl | (apply kO; (first | exact ov_pure rfl | (apply kOBin; (first | exact aBin)) | (apply kOCall; (first | (apply kCallF; (first | exact (ov_call rfl (fun w hw => c_sregionOk va a w (ha.keep (hw.cells rfl)))) | exact (ov_call rfl (fun w hw => c_sregionOk vb c w (hc.keep (hw.cells rfl)))))) | (apply kCallB; (first | exact aBlt | exact aLenR)))) | (apply kOLoad; (first | exact (ov_ldR0 (fun w hw => OBools.rd (by assumption) (hfA hw)) rfl rfl (by rw [hgl]; omega) rfl) | exact aLdF | exact aLdR)) | exact ov_fieldAddr rfl | (apply kOIdx; (first | exact (ov_idxR (fun w hw => OBools.rd (by assumption) (hfA hw)) rfl rfl (by rw [hgl]; omega)) | exact aIdx)) | exact aRest | exact aNew | exact (ov_field1 (ft := 31) rfl rfl rfl rfl))) | (refine kN ?_; (first | (refine kCall ?_; (first | (refine kWFn 98 ?_; (first | refine s_callF (fun u H => OBools u (gvals (points a)) H) rfl (fun w hw => c_l03Grid va a w (ha.keep (hw.cells rfl))) rfl (fun u H hu => ?_) | refine s_callF (fun u H => OBools u (gvals (points c)) H) rfl (fun w hw => c_l03Grid vb c w (hc.keep (hw.cells rfl))) rfl (fun u H hu => ?_)); have f1 := OVs.form hu; obtain ⟨_, _, rfl⟩ := f1) | (refine kWFn 213 ?_; (refine s_callF (fun u H => OReg u (canon (placeG (joinOp kind) (points a) (points c) j.1)) H) rfl (fun w hw => c_l03Canon _ (placeG (joinOp kind) (points a) (points c) j.1) w (OBools.rd (by assumption) (hfA hw))) rfl (fun u H hu => ?_); obtain ⟨d', rfl, hu⟩ := hu)) | apply s_step)) | (refine kStore ?_; (first | (refine s_setB _ rfl rfl (by assumption) gpA (by rw [hgl]; omega) (fun H' hu => ?_)) | (refine s_storeS _ rfl rfl gpA rfl (ones_cons (OVs.one (by assumption)) rfl) (by rfl) ?_) | refine s_store1 _ rfl rfl gpA rfl (by rfl) ?_ | refine s_storeS _ rfl rfl gpA rfl rfl (by rfl) ?_ | refine s_storeS _ rfl rfl gpA rfl (ones_img oiA) (by rfl) ?_)) | refine s_boxS rfl rfl (fun b hb => ?_) | refine s_allocS rfl (fun b hb => ?_) | refine s_box1 rfl rfl rfl (fun b hb => ?_) | refine s_alloc1 rfl rfl (fun b hb => ?_) | refine s_buildSlice0 rfl (fun b hb => ?_) | refine s_buildSlice rfl rfl rfl rfl rfl (fun b hb => ?_) | apply s_step)) | (refine kG ?_; (first | refine s_gyes rfl rfl rfl ?_ | refine s_gno rfl rfl rfl rfl rfl ?_ | ((first | refine s_split_d rfl rfl (fun h => ?_) (fun h => ?_) | refine s_split_n rfl rfl (fun h => ?_) (fun h => ?_)) <;> (try (first | contradiction | (exfalso; omega) | (exfalso; exact absurd hok.1 (by assumption)) | (exfalso; exact absurd hok.2 (by assumption))))) | refine s_split_nb rfl rfl (fun h => ?_) (fun h => ?_) | refine s_split rfl rfl (fun h => ?_) (fun h => ?_))) | refine l_then ?_ | (refine kC ?_; (first | (refine c_loopV (ι := Nat × SPiece) (fun j => j.1 ≤ 256 ∧ OBools _ (gvals (placeG (joinOp kind) (points a) (points c) j.1)) j.2) (fun j => [(9, .int .i64 (j.1 : Int))]) (fun j => [_, j.2, _, _, _]) (fun j => 256 - j.1) (0, _) ⟨by dsimp only; omega, by rw [placeG_zero]; assumption⟩ rfl (fun _ => rfl) ⟨rfl, trivial⟩ (fun w hw => hw) (fun j hj => ?_); obtain ⟨hj1, hj2⟩ := hj) | refine c_seq ?_ | refine c_regionN rfl ?_ | refine c_ret ?_ | (refine kCond ?_; (first | refine c_cond_t rfl ?_ | refine c_cond_f rfl ?_ | ((first | refine c_cond_d rfl (fun h => ?_) (fun h => ?_) | refine c_cond_n rfl (fun h => ?_) (fun h => ?_)) <;> (try (first | contradiction | (exfalso; omega) | (exfalso; exact absurd hok.1 (by assumption)) | (exfalso; exact absurd hok.2 (by assumption))))) | refine c_cond_nb rfl (fun h => ?_) (fun h => ?_) | refine c_cond rfl (fun h => ?_) (fun h => ?_))) | refine c_block ?_ | refine c_skip ?_ | refine c_exit ?_ | refine c_regionQN rfl rfl (by decide +kernel) ?_)) | apply s_stepQ | (refine kQG ?_; (first | refine s_gyesQ rfl rfl rfl ?_ | refine s_gnoQ rfl rfl rfl rfl rfl ?_ | ((first | refine s_splitQ_d rfl rfl (fun h => ?_) (fun h => ?_) | refine s_splitQ_n rfl rfl (fun h => ?_) (fun h => ?_)) <;> (try (first | contradiction | (exfalso; omega) | (exfalso; exact absurd hok.1 (by assumption)) | (exfalso; exact absurd hok.2 (by assumption))))) | refine s_splitQ_nb rfl rfl (fun h => ?_) (fun h => ?_) | refine s_splitQ rfl rfl (fun h => ?_) (fun h => ?_))) | refine lQ_then ?_ | refine lQ_ends ?_ | (refine kE ?_; (first | refine e_then_r ?_ | refine e_block_r ?_ | refine e_then_n ?_ | refine e_then_x ?_ | refine e_block_n ?_ | refine e_block_x ?_ | refine e_block_y rfl ?_)) | refine l_ends ?_)
    all_goals try simp only [Int.toNat_natCast] at *
    all_goals first
      | (have e1 := gvals_place_get (joinOp kind) (points a) (points c) (j := j.1) (by omega)
         have e2 := gvals_get (points c) (q := j.1) (by omega)
         rw [gvals_place_set (joinOp kind) (points a) (points c) (by omega) _ (by unfold joinOp; simp_all)] at hu
         exact e_round (j.1 + 1, H') ⟨by dsimp only; omega, hu⟩ ⟨slook_to rfl (vint_to (by push_cast; rfl)), (by repeat' first | exact trivial | refine ⟨rfl, ?_⟩)⟩ (fun w hw => hw) (by dsimp only; omega))
      | (rw [canon_congr (placeG_all (joinOp kind) (points a) (points c) (j := j.1) (by have := hgl (placeG (joinOp kind) (points a) (points c) j.1); omega))] at hu
         exact s_leaveSF rfl rfl rfl fwA (fun w hw => ⟨_, _, rfl, ⟨_, rfl, hu⟩, hw.toFresh (H := H) gpA⟩))
  · have hj0 : joinOf kind a c = [] := by unfold joinOf; rw [if_neg hok]
    rw [hj0]
    (first | apply SYields.mk | apply SYieldsF.mk | skip); refine s_enter Tryz.func174 rfl Tryz.ntmps174 rfl ?_
    repeat' (first | exact rfl | (apply kO; (first | exact ov_pure rfl | (apply kOBin; (first | exact aBin)) | (apply kOCall; (first | (apply kCallF; (first | exact (ov_call rfl (fun w hw => c_sregionOk va a w (ha.keep (hw.cells rfl)))) | exact (ov_call rfl (fun w hw => c_sregionOk vb c w (hc.keep (hw.cells rfl)))))) | (apply kCallB; (first | exact aBlt | exact aLenR)))) | (apply kOLoad; (first | exact aLdF | exact aLdR)) | exact ov_fieldAddr rfl | (apply kOIdx; (first | exact aIdx)) | exact aRest | exact aNew | exact (ov_field1 (ft := 31) rfl rfl rfl rfl))) | (refine kN ?_; (first | (refine kStore ?_; (first | refine s_store1 _ rfl rfl gpA rfl (by rfl) ?_ | refine s_storeS _ rfl rfl gpA rfl rfl (by rfl) ?_ | refine s_storeS _ rfl rfl gpA rfl (ones_img oiA) (by rfl) ?_)) | refine s_boxS rfl rfl (fun b hb => ?_) | refine s_allocS rfl (fun b hb => ?_) | refine s_box1 rfl rfl rfl (fun b hb => ?_) | refine s_alloc1 rfl rfl (fun b hb => ?_) | refine s_buildSlice0 rfl (fun b hb => ?_) | refine s_buildSlice rfl rfl rfl rfl rfl (fun b hb => ?_) | apply s_step)) | (refine kG ?_; (first | refine s_gyes rfl rfl rfl ?_ | refine s_gno rfl rfl rfl rfl rfl ?_ | ((first | refine s_split_d rfl rfl (fun h => ?_) (fun h => ?_) | refine s_split_n rfl rfl (fun h => ?_) (fun h => ?_)) <;> (try (first | contradiction | (exfalso; omega) | (exfalso; exact hok ⟨by assumption, by assumption⟩)))) | refine s_split_nb rfl rfl (fun h => ?_) (fun h => ?_) | refine s_split rfl rfl (fun h => ?_) (fun h => ?_))) | refine l_then ?_ | (refine kC ?_; (first | refine c_seq ?_ | refine c_regionN rfl ?_ | refine c_ret ?_ | (refine kCond ?_; (first | refine c_cond_t rfl ?_ | refine c_cond_f rfl ?_ | ((first | refine c_cond_d rfl (fun h => ?_) (fun h => ?_) | refine c_cond_n rfl (fun h => ?_) (fun h => ?_)) <;> (try (first | contradiction | (exfalso; omega) | (exfalso; exact hok ⟨by assumption, by assumption⟩)))) | refine c_cond_nb rfl (fun h => ?_) (fun h => ?_) | refine c_cond rfl (fun h => ?_) (fun h => ?_))) | refine c_block ?_ | refine c_skip ?_ | refine c_exit ?_ | refine c_regionQN rfl rfl (by decide +kernel) ?_)) | apply s_stepQ | (refine kQG ?_; (first | refine s_gyesQ rfl rfl rfl ?_ | refine s_gnoQ rfl rfl rfl rfl rfl ?_ | ((first | refine s_splitQ_d rfl rfl (fun h => ?_) (fun h => ?_) | refine s_splitQ_n rfl rfl (fun h => ?_) (fun h => ?_)) <;> (try (first | contradiction | (exfalso; omega) | (exfalso; exact hok ⟨by assumption, by assumption⟩)))) | refine s_splitQ_nb rfl rfl (fun h => ?_) (fun h => ?_) | refine s_splitQ rfl rfl (fun h => ?_) (fun h => ?_))) | refine lQ_then ?_ | refine lQ_ends ?_ | (refine kE ?_; (first | refine e_then_r ?_ | refine e_block_r ?_ | refine e_then_n ?_ | refine e_then_x ?_ | refine e_block_n ?_ | refine e_block_x ?_ | refine e_block_y rfl ?_)) | refine l_ends ?_)
    all_goals (refine kE ?_; refine s_leaveSF rfl rfl rfl fwA (fun w hw => ?_))
    all_goals exact ⟨_, [], rfl, ⟨_, rfl, OVs.nil⟩, hw.toFresh0⟩
set_option maxHeartbeats 4000000 in
theorem c_swithoutOf (va vb : Value) (a c : List DRect) (W : World) (ha : RRects W va a) (hc : RRects W vb c) : SYieldsF Tryz.prog 94 #[vReg va, vReg vb] (fun u H => OReg u (withoutOf a c) H) W := by
  rw [← joinOf_two]
  (first | apply SYields.mk | apply SYieldsF.mk | skip); refine s_enter Tryz.func94 rfl Tryz.ntmps94 rfl ?_
  repeat' (first | exact rfl | (apply kO; (first | exact ov_pure rfl | (apply kOBin; (first | exact aBin)) | (apply kOCall; (first | (apply kCallB; (first | exact aBlt | exact aLenR)))) | (apply kOLoad; (first | exact aLdF | exact aLdR)) | exact ov_fieldAddr rfl | (apply kOIdx; (first | exact aIdx)) | exact aRest | exact aNew | exact (ov_field1 (ft := 31) rfl rfl rfl rfl))) | (refine kN ?_; (first | (refine kCall ?_; (first | (refine kWFn 174 ?_; (refine s_callF (fun u H => OReg u (joinOf 2 a c) H) rfl (fun w hw => c_l03Join va vb a c 2 w (ha.keep (hw.cells rfl)) (hc.keep (hw.cells rfl))) rfl (fun u H hu => ?_); obtain ⟨d', rfl, hu⟩ := hu)) | apply s_step)) | (refine kStore ?_; (first | (refine s_storeS _ rfl rfl gpA rfl (ones_cons (OVs.one (by assumption)) rfl) (by rfl) ?_) | refine s_store1 _ rfl rfl gpA rfl (by rfl) ?_ | refine s_storeS _ rfl rfl gpA rfl rfl (by rfl) ?_ | refine s_storeS _ rfl rfl gpA rfl (ones_img oiA) (by rfl) ?_)) | refine s_boxS rfl rfl (fun b hb => ?_) | refine s_allocS rfl (fun b hb => ?_) | refine s_box1 rfl rfl rfl (fun b hb => ?_) | refine s_alloc1 rfl rfl (fun b hb => ?_) | refine s_buildSlice0 rfl (fun b hb => ?_) | refine s_buildSlice rfl rfl rfl rfl rfl (fun b hb => ?_) | apply s_step)) | (refine kG ?_; (first | refine s_gyes rfl rfl rfl ?_ | refine s_gno rfl rfl rfl rfl rfl ?_ | ((first | refine s_split_d rfl rfl (fun h => ?_) (fun h => ?_) | refine s_split_n rfl rfl (fun h => ?_) (fun h => ?_)) <;> (try (first | contradiction | (exfalso; omega)))) | refine s_split_nb rfl rfl (fun h => ?_) (fun h => ?_) | refine s_split rfl rfl (fun h => ?_) (fun h => ?_))) | refine l_then ?_ | (refine kC ?_; (first | refine c_seq ?_ | refine c_regionN rfl ?_ | refine c_ret ?_ | (refine kCond ?_; (first | refine c_cond_t rfl ?_ | refine c_cond_f rfl ?_ | ((first | refine c_cond_d rfl (fun h => ?_) (fun h => ?_) | refine c_cond_n rfl (fun h => ?_) (fun h => ?_)) <;> (try (first | contradiction | (exfalso; omega)))) | refine c_cond_nb rfl (fun h => ?_) (fun h => ?_) | refine c_cond rfl (fun h => ?_) (fun h => ?_))) | refine c_block ?_ | refine c_skip ?_ | refine c_exit ?_ | refine c_regionQN rfl rfl (by decide +kernel) ?_)) | apply s_stepQ | (refine kQG ?_; (first | refine s_gyesQ rfl rfl rfl ?_ | refine s_gnoQ rfl rfl rfl rfl rfl ?_ | ((first | refine s_splitQ_d rfl rfl (fun h => ?_) (fun h => ?_) | refine s_splitQ_n rfl rfl (fun h => ?_) (fun h => ?_)) <;> (try (first | contradiction | (exfalso; omega)))) | refine s_splitQ_nb rfl rfl (fun h => ?_) (fun h => ?_) | refine s_splitQ rfl rfl (fun h => ?_) (fun h => ?_))) | refine lQ_then ?_ | refine lQ_ends ?_ | (refine kE ?_; (first | refine e_then_r ?_ | refine e_block_r ?_ | refine e_then_n ?_ | refine e_then_x ?_ | refine e_block_n ?_ | refine e_block_x ?_ | refine e_block_y rfl ?_)) | refine l_ends ?_)
  all_goals (refine kE ?_; refine s_leaveSF rfl rfl rfl fwA (fun w hw => ?_))
  all_goals exact ⟨_, _, rfl, ⟨_, rfl, hu⟩, hw.toFresh (H := H) gpA⟩
set_option maxHeartbeats 4000000 in
theorem c_sareaOf (v : Value) (l : List DRect) (W : World) (hv : RRects W v l) (hlen : l.length ≤ 1000000) : SYields Tryz.prog 93 #[vReg v] (.int .i64 (areaOf l)) W := by
  have hll := hv.len
  have hv' := hv.form
  obtain ⟨_, _, rfl⟩ := hv'
  by_cases hok : regionOk l
  · have h128 := hok.length
    have hbd := fun j => area_take_bd hok j
    have hab := fun (j : Nat) (hj : j < l.length) => inScreen_area (getD_inScreen hok hj)
    have hsd := fun (j : Nat) (hj : j < l.length) => inScreen_side (getD_inScreen hok hj)
    (first | apply SYields.mk | apply SYieldsF.mk | skip); refine s_enter Tryz.func93 rfl Tryz.ntmps93 rfl ?_
    repeat' (first | exact rfl | (apply kO; (first | exact ov_pure rfl | (apply kOBin; (first | exact aBin | exact (ov_mul rfl rfl (by have := hab j (by omega); (try simp only [Int.toNat_natCast]); omega)) | exact (ov_add rfl rfl (by have := hab j (by omega); have := hbd j; (try simp only [Int.toNat_natCast]); omega)))) | (apply kOCall; (first | (apply kCallF; (first | exact (ov_call rfl (fun w hw => c_sregionOk _ l w (hv.keep (hw.cells rfl)))))) | (apply kCallB; (first | exact aBlt | exact aLenR)))) | (apply kOLoad; (first | exact (ov_ldR (fun w hw => RRow.keep hv (hw.cells rfl)) rfl rfl (by omega) rfl) | exact aLdF | exact aLdR)) | exact ov_fieldAddr rfl | (apply kOIdx; (first | exact (ov_idxR (fun w hw => RRow.keep hv (hw.cells rfl)) rfl rfl (by omega)) | exact aIdx)) | exact aRest | exact aNew | exact (ov_field1 (ft := 31) rfl rfl rfl rfl))) | (refine kN ?_; (first | (refine kStore ?_; (first | refine s_store1 _ rfl rfl gpA rfl (by rfl) ?_ | refine s_storeS _ rfl rfl gpA rfl rfl (by rfl) ?_ | refine s_storeS _ rfl rfl gpA rfl (ones_img oiA) (by rfl) ?_)) | refine s_boxS rfl rfl (fun b hb => ?_) | refine s_allocS rfl (fun b hb => ?_) | refine s_box1 rfl rfl rfl (fun b hb => ?_) | refine s_alloc1 rfl rfl (fun b hb => ?_) | refine s_buildSlice0 rfl (fun b hb => ?_) | refine s_buildSlice rfl rfl rfl rfl rfl (fun b hb => ?_) | apply s_step)) | (refine kG ?_; (first | refine s_gyes rfl rfl rfl ?_ | refine s_gno rfl rfl rfl rfl rfl ?_ | ((first | refine s_split_d rfl rfl (fun h => ?_) (fun h => ?_) | refine s_split_n rfl rfl (fun h => ?_) (fun h => ?_)) <;> (try (first | contradiction | (exfalso; omega) | (exfalso; exact absurd hok (by assumption))))) | refine s_split_nb rfl rfl (fun h => ?_) (fun h => ?_) | refine s_split rfl rfl (fun h => ?_) (fun h => ?_))) | refine l_then ?_ | (refine kC ?_; (first | (refine c_loopV (ι := Nat) (fun j => j ≤ l.length) (fun j => [(3, .int .i64 (area (l.take j))), (4, .int .i64 (j : Int))]) (fun _ => [_]) (fun j => l.length - j) 0 (by omega) rfl (fun _ => rfl) ⟨rfl, rfl, trivial⟩ (fun w hw => hw) (fun j hj => ?_)) | refine c_seq ?_ | refine c_regionN rfl ?_ | refine c_ret ?_ | (refine kCond ?_; (first | refine c_cond_t rfl ?_ | refine c_cond_f rfl ?_ | ((first | refine c_cond_d rfl (fun h => ?_) (fun h => ?_) | refine c_cond_n rfl (fun h => ?_) (fun h => ?_)) <;> (try (first | contradiction | (exfalso; omega) | (exfalso; exact absurd hok (by assumption))))) | refine c_cond_nb rfl (fun h => ?_) (fun h => ?_) | refine c_cond rfl (fun h => ?_) (fun h => ?_))) | refine c_block ?_ | refine c_skip ?_ | refine c_exit ?_ | refine c_regionQN rfl rfl (by decide +kernel) ?_)) | apply s_stepQ | (refine kQG ?_; (first | refine s_gyesQ rfl rfl rfl ?_ | refine s_gnoQ rfl rfl rfl rfl rfl ?_ | ((first | refine s_splitQ_d rfl rfl (fun h => ?_) (fun h => ?_) | refine s_splitQ_n rfl rfl (fun h => ?_) (fun h => ?_)) <;> (try (first | contradiction | (exfalso; omega) | (exfalso; exact absurd hok (by assumption))))) | refine s_splitQ_nb rfl rfl (fun h => ?_) (fun h => ?_) | refine s_splitQ rfl rfl (fun h => ?_) (fun h => ?_))) | refine lQ_then ?_ | refine lQ_ends ?_ | (refine kE ?_; (first | refine e_then_r ?_ | refine e_block_r ?_ | refine e_then_n ?_ | refine e_then_x ?_ | refine e_block_n ?_ | refine e_block_x ?_ | refine e_block_y rfl ?_)) | refine l_ends ?_)
    all_goals first
      | exact e_round (j + 1) (by omega) ⟨slook_to rfl (vint_to (area_take_succ (by omega)).symm), slook_to rfl (vint_to (by push_cast; rfl)), (by repeat' first | exact trivial | refine ⟨rfl, ?_⟩)⟩ (fun w hw => hw) (by omega)
      | exact s_leave1 rfl rfl (fun w hw => ⟨ret_int (by unfold areaOf; rw [if_pos hok, List.take_of_length_le (by omega)]), hw.below⟩)
  · (first | apply SYields.mk | apply SYieldsF.mk | skip); refine s_enter Tryz.func93 rfl Tryz.ntmps93 rfl ?_
    repeat' (first | exact rfl | (apply kO; (first | exact ov_pure rfl | (apply kOBin; (first | exact aBin)) | (apply kOCall; (first | (apply kCallF; (first | exact (ov_call rfl (fun w hw => c_sregionOk _ l w (hv.keep (hw.cells rfl)))))) | (apply kCallB; (first | exact aBlt | exact aLenR)))) | (apply kOLoad; (first | exact aLdF | exact aLdR)) | exact ov_fieldAddr rfl | (apply kOIdx; (first | exact aIdx)) | exact aRest | exact aNew | exact (ov_field1 (ft := 31) rfl rfl rfl rfl))) | (refine kN ?_; (first | (refine kStore ?_; (first | refine s_store1 _ rfl rfl gpA rfl (by rfl) ?_ | refine s_storeS _ rfl rfl gpA rfl rfl (by rfl) ?_ | refine s_storeS _ rfl rfl gpA rfl (ones_img oiA) (by rfl) ?_)) | refine s_boxS rfl rfl (fun b hb => ?_) | refine s_allocS rfl (fun b hb => ?_) | refine s_box1 rfl rfl rfl (fun b hb => ?_) | refine s_alloc1 rfl rfl (fun b hb => ?_) | refine s_buildSlice0 rfl (fun b hb => ?_) | refine s_buildSlice rfl rfl rfl rfl rfl (fun b hb => ?_) | apply s_step)) | (refine kG ?_; (first | refine s_gyes rfl rfl rfl ?_ | refine s_gno rfl rfl rfl rfl rfl ?_ | ((first | refine s_split_d rfl rfl (fun h => ?_) (fun h => ?_) | refine s_split_n rfl rfl (fun h => ?_) (fun h => ?_)) <;> (try (first | contradiction | (exfalso; omega) | (exfalso; exact absurd (by assumption) hok)))) | refine s_split_nb rfl rfl (fun h => ?_) (fun h => ?_) | refine s_split rfl rfl (fun h => ?_) (fun h => ?_))) | refine l_then ?_ | (refine kC ?_; (first | (refine c_loopV (ι := Nat) (fun j => j = 0) (fun j => [(3, .int .i64 0), (4, .int .i64 (j : Int))]) (fun _ => [_]) (fun j => 0) 0 rfl rfl (fun _ => rfl) ⟨rfl, rfl, trivial⟩ (fun w hw => hw) (fun j hj => ?_)) | refine c_seq ?_ | refine c_regionN rfl ?_ | refine c_ret ?_ | (refine kCond ?_; (first | refine c_cond_t rfl ?_ | refine c_cond_f rfl ?_ | ((first | refine c_cond_d rfl (fun h => ?_) (fun h => ?_) | refine c_cond_n rfl (fun h => ?_) (fun h => ?_)) <;> (try (first | contradiction | (exfalso; omega) | (exfalso; exact absurd (by assumption) hok)))) | refine c_cond_nb rfl (fun h => ?_) (fun h => ?_) | refine c_cond rfl (fun h => ?_) (fun h => ?_))) | refine c_block ?_ | refine c_skip ?_ | refine c_exit ?_ | refine c_regionQN rfl rfl (by decide +kernel) ?_)) | apply s_stepQ | (refine kQG ?_; (first | refine s_gyesQ rfl rfl rfl ?_ | refine s_gnoQ rfl rfl rfl rfl rfl ?_ | ((first | refine s_splitQ_d rfl rfl (fun h => ?_) (fun h => ?_) | refine s_splitQ_n rfl rfl (fun h => ?_) (fun h => ?_)) <;> (try (first | contradiction | (exfalso; omega) | (exfalso; exact absurd (by assumption) hok)))) | refine s_splitQ_nb rfl rfl (fun h => ?_) (fun h => ?_) | refine s_splitQ rfl rfl (fun h => ?_) (fun h => ?_))) | refine lQ_then ?_ | refine lQ_ends ?_ | (refine kE ?_; (first | refine e_then_r ?_ | refine e_block_r ?_ | refine e_then_n ?_ | refine e_then_x ?_ | refine e_block_n ?_ | refine e_block_x ?_ | refine e_block_y rfl ?_)) | refine l_ends ?_)
    all_goals exact s_leave1 rfl rfl (fun w hw => ⟨ret_int (by unfold areaOf; rw [if_neg hok]), hw.below⟩)
end Go.Proofs.YtfmjeakcfmmkfaaGreat
/-
  Contracts: regions of the program.
-/
set_option linter.unusedVariables false
namespace Go.Proofs.YtfmjeakcfmmkfaaGreat
open Go Sx
attribute [local irreducible] Exit.then Exit.inBlock bodyPost OVs OInts canonR rowR points Sx.canon
set_option maxHeartbeats 4000000 in
theorem c_gridOfRegion (v : Value) (l : List DRect) (W : World) (hv : RRects W v l) : SYields Tryz.prog 68 #[vReg v] (gval (points l)) W := by
  have hll := hv.len
  have hv' := hv.form
  obtain ⟨_, _, rfl⟩ := hv'
  have h0 : points (l.take 0) = Grid.none := by unfold points; funext y x; rfl
  (first | apply SYields.mk | apply SYieldsF.mk | skip); refine s_enter Tryz.func68 rfl Tryz.ntmps68 rfl ?_
  repeat' (first | exact rfl | (apply kO; (first | exact ov_pure rfl | (apply kOBin; (first | exact aBin)) | (apply kOCall; (first | (apply kCallF; (first | exact (ov_call rfl (fun w hw => c_gridOf (l.getD j DRect.zero) w)) | exact (ov_call rfl (fun w hw => c_gor (points (l.take j)) (rectG (l.getD j DRect.zero)) w)))) | (apply kCallB; (first | exact aBlt | exact aLenR)))) | (apply kOLoad; (first | exact (ov_ldRZ (fun w hw => RRow.keep hv (hw.cells rfl)) rfl rfl (by omega) rfl) | exact aLdF | exact aLdR)) | exact ov_fieldAddr rfl | (apply kOIdx; (first | exact (ov_idxR (fun w hw => RRow.keep hv (hw.cells rfl)) rfl rfl (by omega)) | exact aIdx)) | exact aRest | exact (ov_buildA0) | exact aNew | exact (ov_field1 (ft := 31) rfl rfl rfl rfl))) | (refine kN ?_; (first | (refine kStore ?_; (first | refine s_store1 _ rfl rfl gpA rfl (by rfl) ?_ | refine s_storeS _ rfl rfl gpA rfl rfl (by rfl) ?_ | refine s_storeS _ rfl rfl gpA rfl (ones_img oiA) (by rfl) ?_)) | refine s_boxS rfl rfl (fun b hb => ?_) | refine s_allocS rfl (fun b hb => ?_) | refine s_box1 rfl rfl rfl (fun b hb => ?_) | refine s_alloc1 rfl rfl (fun b hb => ?_) | refine s_buildSlice0 rfl (fun b hb => ?_) | refine s_buildSlice rfl rfl rfl rfl rfl (fun b hb => ?_) | apply s_step)) | (refine kG ?_; (first | refine s_gyes rfl rfl rfl ?_ | refine s_gno rfl rfl rfl rfl rfl ?_ | ((first | refine s_split_d rfl rfl (fun h => ?_) (fun h => ?_) | refine s_split_n rfl rfl (fun h => ?_) (fun h => ?_)) <;> (try (first | contradiction | (exfalso; omega)))) | refine s_split_nb rfl rfl (fun h => ?_) (fun h => ?_) | refine s_split rfl rfl (fun h => ?_) (fun h => ?_))) | (refine kS ?_; (first | refine h_exec rfl ?_ | refine h_take_nil rfl rfl rfl ?_ | refine h_take_pick rfl rfl rfl ?_ | refine h_nil ?_ | refine h_alt ?_ ?_ | apply h_take)) | (refine kBack ?_; (first | refine h_back_last rfl ?_ | refine h_backN rfl subA ?_)) | refine l_then ?_ | (refine kC ?_; (first | (refine kReg 5 ?_; refine c_regionSN (SPlan.take 0 (SPlan.take 1 (SPlan.run 2 (SPlan.run 3 (SPlan.run 4 SPlan.done))))) (some 4) rfl rfl (by decide +kernel) ?_) | (refine kReg 5 ?_; refine c_regionSN (SPlan.take 0 (SPlan.take 1 (SPlan.run 2 (SPlan.run 3 (SPlan.run 4 SPlan.done))))) none rfl rfl (by decide +kernel) ?_) | (refine c_loopV (ι := Nat) (fun j => j ≤ l.length) (fun j => [(10, .int .i64 (j : Int))]) (fun j => [[(_, srow (gl (points (l.take j))) _)], _, _]) (fun j => l.length - j) 0 (by omega) rfl (fun _ => rfl) ⟨rfl, trivial⟩ (fun w hw => by rw [h0]; exact hw) (fun j hj => ?_)) | refine c_seq ?_ | refine c_regionN rfl ?_ | refine c_ret ?_ | (refine kCond ?_; (first | refine c_cond_t rfl ?_ | refine c_cond_f rfl ?_ | ((first | refine c_cond_d rfl (fun h => ?_) (fun h => ?_) | refine c_cond_n rfl (fun h => ?_) (fun h => ?_)) <;> (try (first | contradiction | (exfalso; omega)))) | refine c_cond_nb rfl (fun h => ?_) (fun h => ?_) | refine c_cond rfl (fun h => ?_) (fun h => ?_))) | refine c_block ?_ | refine c_skip ?_ | refine c_exit ?_ | refine c_regionQN rfl rfl (by decide +kernel) ?_)) | apply s_stepQ | (refine kQG ?_; (first | refine s_gyesQ rfl rfl rfl ?_ | refine s_gnoQ rfl rfl rfl rfl rfl ?_ | ((first | refine s_splitQ_d rfl rfl (fun h => ?_) (fun h => ?_) | refine s_splitQ_n rfl rfl (fun h => ?_) (fun h => ?_)) <;> (try (first | contradiction | (exfalso; omega)))) | refine s_splitQ_nb rfl rfl (fun h => ?_) (fun h => ?_) | refine s_splitQ rfl rfl (fun h => ?_) (fun h => ?_))) | refine lQ_then ?_ | refine lQ_ends ?_ | (refine kE ?_; (first | refine e_then_r ?_ | refine e_block_r ?_ | refine e_then_n ?_ | refine e_then_x ?_ | refine e_block_n ?_ | refine e_block_x ?_ | refine e_block_y rfl ?_)) | refine l_ends ?_)
  · exact e_round (j + 1) (by omega) ⟨slook_to rfl (vint_to (by push_cast; rfl)), (by repeat' first | exact trivial | refine ⟨rfl, ?_⟩)⟩ (fun w hw => by rw [points_take (by omega)]; exact hw.sub (selO_sub [false, true, true, true] _ _ rfl)) (by omega)
  · refine s_leaveSF rfl rfl rfl fwA (fun w hw => ⟨?_, hw.below⟩)
    show Ending.returned (gval (points (l.take j))) = _
    rw [List.take_of_length_le (by omega)]
set_option maxHeartbeats 4000000 in
theorem c_iregionOf (v : Value) (l : List DRect) (W : World) (hv : RRects W v l) : SYieldsF Tryz.prog 161 #[v] (fun u H => OReg u (canon (points l)) H) W := by
  have hll := hv.len
  have hv' := hv.form
  obtain ⟨_, _, rfl⟩ := hv'
  have h0 : points (l.take 0) = Grid.none := by unfold points; funext y x; rfl
  (first | apply SYields.mk | apply SYieldsF.mk | skip); refine s_enter Tryz.func161 rfl Tryz.ntmps161 rfl ?_
  repeat' (first | exact rfl | (apply kO; (first | exact ov_pure rfl | (apply kOBin; (first | exact aBin)) | (apply kOCall; (first | (apply kCallF; (first | exact (ov_call rfl (fun w hw => c_irectOk (l.getD j DRect.zero) w)) | exact (ov_call rfl (fun w hw => c_gridOf (l.getD j DRect.zero) w)) | exact (ov_call rfl (fun w hw => c_gor (points (l.take j)) (rectG (l.getD j DRect.zero)) w)))) | (apply kCallB; (first | exact aBlt | exact aLenR)))) | (apply kOLoad; (first | exact (ov_ldRZ (fun w hw => RRow.keep hv (hw.cells rfl)) rfl rfl (by omega) rfl) | exact aLdF | exact aLdR)) | exact ov_fieldAddr rfl | (apply kOIdx; (first | exact (ov_idxR (fun w hw => RRow.keep hv (hw.cells rfl)) rfl rfl (by omega)) | exact aIdx)) | exact aRest | exact (ov_buildA0) | exact aNew | exact (ov_field1 (ft := 31) rfl rfl rfl rfl))) | (refine kN ?_; (first | (refine kCall ?_; (first | (refine kWFn 67 ?_; (refine s_callF (fun u H => OReg u (canon (points (l.take j))) H) rfl (fun w hw => c_gregion (points (l.take j)) w) rfl (fun u H hu => ?_); obtain ⟨d', rfl, hu⟩ := hu)) | apply s_step)) | (refine kStore ?_; (first | (refine s_storeS _ rfl rfl gpA rfl (ones_cons (OVs.one (by assumption)) rfl) (by rfl) ?_) | refine s_store1 _ rfl rfl gpA rfl (by rfl) ?_ | refine s_storeS _ rfl rfl gpA rfl rfl (by rfl) ?_ | refine s_storeS _ rfl rfl gpA rfl (ones_img oiA) (by rfl) ?_)) | refine s_boxS rfl rfl (fun b hb => ?_) | refine s_allocS rfl (fun b hb => ?_) | refine s_box1 rfl rfl rfl (fun b hb => ?_) | refine s_alloc1 rfl rfl (fun b hb => ?_) | refine s_buildSlice0 rfl (fun b hb => ?_) | refine s_buildSlice rfl rfl rfl rfl rfl (fun b hb => ?_) | apply s_step)) | (refine kG ?_; (first | refine s_gyes rfl rfl rfl ?_ | refine s_gno rfl rfl rfl rfl rfl ?_ | ((first | refine s_split_d rfl rfl (fun h => ?_) (fun h => ?_) | refine s_split_n rfl rfl (fun h => ?_) (fun h => ?_)) <;> (try (first | contradiction | (exfalso; omega)))) | refine s_split_nb rfl rfl (fun h => ?_) (fun h => ?_) | refine s_split rfl rfl (fun h => ?_) (fun h => ?_))) | (refine kS ?_; (first | refine h_exec rfl ?_ | refine h_take_nil rfl rfl rfl ?_ | refine h_take_pick rfl rfl rfl ?_ | refine h_nil ?_ | refine h_alt ?_ ?_ | apply h_take)) | (refine kBack ?_; (first | refine h_back_last rfl ?_ | refine h_backN rfl subA ?_)) | refine l_then ?_ | (refine kC ?_; (first | (refine kReg 6 ?_; refine c_regionSN (SPlan.take 0 (SPlan.take 1 (SPlan.run 2 (SPlan.run 3 (SPlan.run 4 SPlan.done))))) (some 4) rfl rfl (by decide +kernel) ?_) | (refine kReg 6 ?_; refine c_regionSN (SPlan.take 0 (SPlan.take 1 (SPlan.run 2 (SPlan.run 3 (SPlan.run 4 SPlan.done))))) none rfl rfl (by decide +kernel) ?_) | (refine c_loopV (ι := Nat) (fun j => j ≤ l.length) (fun j => [(9, .int .i64 (j : Int))]) (fun j => [[(_, srow (gl (points (l.take j))) _)], _]) (fun j => l.length - j) 0 (by omega) rfl (fun _ => rfl) ⟨rfl, trivial⟩ (fun w hw => by rw [h0]; exact hw) (fun j hj => ?_)) | refine c_seq ?_ | refine c_regionN rfl ?_ | refine c_ret ?_ | (refine kCond ?_; (first | refine c_cond_t rfl ?_ | refine c_cond_f rfl ?_ | ((first | refine c_cond_d rfl (fun h => ?_) (fun h => ?_) | refine c_cond_n rfl (fun h => ?_) (fun h => ?_)) <;> (try (first | contradiction | (exfalso; omega)))) | refine c_cond_nb rfl (fun h => ?_) (fun h => ?_) | refine c_cond rfl (fun h => ?_) (fun h => ?_))) | refine c_block ?_ | refine c_skip ?_ | refine c_exit ?_ | refine c_regionQN rfl rfl (by decide +kernel) ?_)) | apply s_stepQ | (refine kQG ?_; (first | refine s_gyesQ rfl rfl rfl ?_ | refine s_gnoQ rfl rfl rfl rfl rfl ?_ | ((first | refine s_splitQ_d rfl rfl (fun h => ?_) (fun h => ?_) | refine s_splitQ_n rfl rfl (fun h => ?_) (fun h => ?_)) <;> (try (first | contradiction | (exfalso; omega)))) | refine s_splitQ_nb rfl rfl (fun h => ?_) (fun h => ?_) | refine s_splitQ rfl rfl (fun h => ?_) (fun h => ?_))) | refine lQ_then ?_ | refine lQ_ends ?_ | (refine kE ?_; (first | refine e_then_r ?_ | refine e_block_r ?_ | refine e_then_n ?_ | refine e_then_x ?_ | refine e_block_n ?_ | refine e_block_x ?_ | refine e_block_y rfl ?_)) | refine l_ends ?_)
  · exact e_round (j + 1) (by omega) ⟨slook_to rfl (vint_to (by push_cast; rfl)), (by repeat' first | exact trivial | refine ⟨rfl, ?_⟩)⟩ (fun w hw => by rw [points_take (by omega)]; exact hw.sub (selO_sub [false, true, true] _ _ rfl)) (by omega)
  · exact e_round (j + 1) (by omega) ⟨slook_to rfl (vint_to (by push_cast; rfl)), (by repeat' first | exact trivial | refine ⟨rfl, ?_⟩)⟩ (fun w hw => by rw [points_take_ok (by omega) (by assumption)]; exact hw.sub (selO_sub [false, true, true] _ _ rfl)) (by omega)
  · rw [List.take_of_length_le (by omega)] at hu
    refine s_leaveSF rfl rfl rfl fwA (fun w hw => ⟨_, _, rfl, ⟨_, rfl, hu⟩, hw.toFresh (H := H) gpA⟩)
set_option maxHeartbeats 4000000 in
theorem c_equalRects (u v : Value) (k l : List DRect) (W : World) (hu : RRects W u k) (hv : RRects W v l) : SYields Tryz.prog 160 #[u, v] (.bool (decide (k = l))) W := by
  have hkl := hu.len
  have hll := hv.len
  (first | apply SYields.mk | apply SYieldsF.mk | skip); refine s_enter Tryz.func160 rfl Tryz.ntmps160 rfl ?_
  repeat' (first | exact rfl | (apply kO; (first | exact ov_pure rfl | (apply kOBin; (first | exact aBin)) | (apply kOCall; (first | (apply kCallB; (first | exact aBlt | exact (ov_lenR (fun w hw => RRow.keep hu (hw.cells rfl)) rfl) | exact (ov_lenR (fun w hw => RRow.keep hv (hw.cells rfl)) rfl) | exact aLenR)))) | (apply kOLoad; (first | exact (ov_ldRZ (fun w hw => RRow.keep hu (hw.cells rfl)) rfl rfl (by omega) rfl) | exact (ov_ldRZ (fun w hw => RRow.keep hv (hw.cells rfl)) rfl rfl (by omega) rfl) | exact aLdF | exact aLdR)) | exact ov_fieldAddr rfl | (apply kOIdx; (first | exact (ov_idxR (fun w hw => RRow.keep hu (hw.cells rfl)) rfl rfl (by omega)) | exact (ov_idxR (fun w hw => RRow.keep hv (hw.cells rfl)) rfl rfl (by omega)) | exact aIdx)) | exact aRest | exact (ov_neRect rfl rfl) | exact aNew | exact (ov_field1 (ft := 31) rfl rfl rfl rfl))) | (refine kN ?_; (first | (refine kStore ?_; (first | refine s_store1 _ rfl rfl gpA rfl (by rfl) ?_ | refine s_storeS _ rfl rfl gpA rfl rfl (by rfl) ?_ | refine s_storeS _ rfl rfl gpA rfl (ones_img oiA) (by rfl) ?_)) | refine s_boxS rfl rfl (fun b hb => ?_) | refine s_allocS rfl (fun b hb => ?_) | refine s_box1 rfl rfl rfl (fun b hb => ?_) | refine s_alloc1 rfl rfl (fun b hb => ?_) | refine s_buildSlice0 rfl (fun b hb => ?_) | refine s_buildSlice rfl rfl rfl rfl rfl (fun b hb => ?_) | apply s_step)) | (refine kG ?_; (first | refine s_gyes rfl rfl rfl ?_ | refine s_gno rfl rfl rfl rfl rfl ?_ | ((first | refine s_split_d rfl rfl (fun h => ?_) (fun h => ?_) | refine s_split_n rfl rfl (fun h => ?_) (fun h => ?_)) <;> (try (first | contradiction | (exfalso; omega)))) | refine s_split_nb rfl rfl (fun h => ?_) (fun h => ?_) | refine s_split rfl rfl (fun h => ?_) (fun h => ?_))) | refine l_then ?_ | (refine kC ?_; (first | (refine c_loopV (ι := Nat) (fun j => j ≤ k.length ∧ eqTo k l DRect.zero j) (fun j => [(13, .int .i64 (j : Int))]) (fun _ => _) (fun j => k.length - j) 0 ⟨by omega, eqTo_zero _ _ _⟩ rfl (fun _ => rfl) ⟨rfl, trivial⟩ (fun w hw => hw) (fun j hj => ?_)) | refine c_seq ?_ | refine c_regionN rfl ?_ | refine c_ret ?_ | (refine kCond ?_; (first | refine c_cond_t rfl ?_ | refine c_cond_f rfl ?_ | ((first | refine c_cond_d rfl (fun h => ?_) (fun h => ?_) | refine c_cond_n rfl (fun h => ?_) (fun h => ?_)) <;> (try (first | contradiction | (exfalso; omega)))) | refine c_cond_nb rfl (fun h => ?_) (fun h => ?_) | refine c_cond rfl (fun h => ?_) (fun h => ?_))) | refine c_block ?_ | refine c_skip ?_ | refine c_exit ?_ | refine c_regionQN rfl rfl (by decide +kernel) ?_)) | apply s_stepQ | (refine kQG ?_; (first | refine s_gyesQ rfl rfl rfl ?_ | refine s_gnoQ rfl rfl rfl rfl rfl ?_ | ((first | refine s_splitQ_d rfl rfl (fun h => ?_) (fun h => ?_) | refine s_splitQ_n rfl rfl (fun h => ?_) (fun h => ?_)) <;> (try (first | contradiction | (exfalso; omega)))) | refine s_splitQ_nb rfl rfl (fun h => ?_) (fun h => ?_) | refine s_splitQ rfl rfl (fun h => ?_) (fun h => ?_))) | refine lQ_then ?_ | refine lQ_ends ?_ | (refine kE ?_; (first | refine e_then_r ?_ | refine e_block_r ?_ | refine e_then_n ?_ | refine e_then_x ?_ | refine e_block_n ?_ | refine e_block_x ?_ | refine e_block_y rfl ?_)) | refine l_ends ?_)
  all_goals first
    | exact s_leave1 rfl rfl (fun w hw => ⟨ret_false (ne_of_len (by omega)), hw.below⟩)
    | exact s_leave1 rfl rfl (fun w hw => ⟨ret_false (fun e => by subst e; contradiction), hw.below⟩)
    | exact e_round (j + 1) ⟨by omega, eqTo_next hj.2 (by assumption)⟩ ⟨rfl, (by repeat' first | exact trivial | refine ⟨rfl, ?_⟩)⟩ (fun w hw => hw) (by omega)
    | exact s_leave1 rfl rfl (fun w hw => ⟨ret_true (list_eq_of_getD DRect.zero (by omega) (fun i hi => hj.2 i (by omega))), hw.below⟩)
set_option maxHeartbeats 4000000 in
theorem c_iregionOk (v : Value) (l : List DRect) (W : World) (hv : RRects W v l) : SYields Tryz.prog 78 #[vReg v] (.bool (decide (regionOk l))) W := by
  (first | apply SYields.mk | apply SYieldsF.mk | skip); refine s_enter Tryz.func78 rfl Tryz.ntmps78 rfl ?_
  repeat' (first | exact rfl | (apply kO; (first | exact ov_pure rfl | (apply kOBin; (first | exact aBin)) | (apply kOCall; (first | (apply kCallF; (first | exact (ov_call rfl (fun w hw => c_equalRects _ _ (canon (points l)) l w (ORects.rd (by assumption) (hfA hw)) (RVs.keep hv (hw.cells rfl)))))) | (apply kCallB; (first | exact aBlt | exact aLenR)))) | (apply kOLoad; (first | exact aLdF | exact aLdR)) | exact ov_fieldAddr rfl | (apply kOIdx; (first | exact aIdx)) | exact aRest | exact (ov_field1 (ft := 41) rfl rfl rfl rfl) | exact aNew | exact (ov_field1 (ft := 31) rfl rfl rfl rfl))) | (refine kN ?_; (first | (refine kCall ?_; (first | (refine kWFn 161 ?_; (refine s_callF (fun u H => OReg u (canon (points l)) H) rfl (fun w hw => c_iregionOf v l w (hv.keep (hw.cells rfl))) rfl (fun u H hu => ?_); obtain ⟨d', rfl, hu⟩ := hu)) | apply s_step)) | (refine kStore ?_; (first | refine s_store1 _ rfl rfl gpA rfl (by rfl) ?_ | refine s_storeS _ rfl rfl gpA rfl rfl (by rfl) ?_ | refine s_storeS _ rfl rfl gpA rfl (ones_img oiA) (by rfl) ?_)) | refine s_boxS rfl rfl (fun b hb => ?_) | refine s_allocS rfl (fun b hb => ?_) | refine s_box1 rfl rfl rfl (fun b hb => ?_) | refine s_alloc1 rfl rfl (fun b hb => ?_) | refine s_buildSlice0 rfl (fun b hb => ?_) | refine s_buildSlice rfl rfl rfl rfl rfl (fun b hb => ?_) | apply s_step)) | (refine kG ?_; (first | refine s_gyes rfl rfl rfl ?_ | refine s_gno rfl rfl rfl rfl rfl ?_ | ((first | refine s_split_d rfl rfl (fun h => ?_) (fun h => ?_) | refine s_split_n rfl rfl (fun h => ?_) (fun h => ?_)) <;> (try (first | contradiction | (exfalso; omega)))) | refine s_split_nb rfl rfl (fun h => ?_) (fun h => ?_) | refine s_split rfl rfl (fun h => ?_) (fun h => ?_))) | (refine kS ?_; (first | refine h_exec rfl ?_ | refine h_take_nil rfl rfl rfl ?_ | refine h_take_pick rfl rfl rfl ?_ | refine h_nil ?_ | refine h_alt ?_ ?_ | apply h_take)) | (refine kBack ?_; (first | refine h_back_last rfl ?_ | refine h_backN rfl subA ?_)) | refine l_then ?_ | (refine kC ?_; (first | (refine kReg 1 ?_; refine c_regionSN (SPlan.take 0 (SPlan.take 1 (SPlan.take 4 (SPlan.take 5 (SPlan.run 2 (SPlan.take 3 (SPlan.run 6 (SPlan.take 7 SPlan.done)))))))) none rfl rfl (by decide +kernel) ?_) | refine c_seq ?_ | refine c_regionN rfl ?_ | refine c_ret ?_ | (refine kCond ?_; (first | refine c_cond_t rfl ?_ | refine c_cond_f rfl ?_ | ((first | refine c_cond_d rfl (fun h => ?_) (fun h => ?_) | refine c_cond_n rfl (fun h => ?_) (fun h => ?_)) <;> (try (first | contradiction | (exfalso; omega)))) | refine c_cond_nb rfl (fun h => ?_) (fun h => ?_) | refine c_cond rfl (fun h => ?_) (fun h => ?_))) | refine c_block ?_ | refine c_skip ?_ | refine c_exit ?_ | refine c_regionQN rfl rfl (by decide +kernel) ?_)) | apply s_stepQ | (refine kQG ?_; (first | refine s_gyesQ rfl rfl rfl ?_ | refine s_gnoQ rfl rfl rfl rfl rfl ?_ | ((first | refine s_splitQ_d rfl rfl (fun h => ?_) (fun h => ?_) | refine s_splitQ_n rfl rfl (fun h => ?_) (fun h => ?_)) <;> (try (first | contradiction | (exfalso; omega)))) | refine s_splitQ_nb rfl rfl (fun h => ?_) (fun h => ?_) | refine s_splitQ rfl rfl (fun h => ?_) (fun h => ?_))) | refine lQ_then ?_ | refine lQ_ends ?_ | (refine kE ?_; (first | refine e_then_r ?_ | refine e_block_r ?_ | refine e_then_n ?_ | refine e_then_x ?_ | refine e_block_n ?_ | refine e_block_x ?_ | refine e_block_y rfl ?_)) | refine l_ends ?_)
  all_goals refine s_leave1 rfl rfl (fun w hw => ⟨ret_dec Iff.rfl, hw.below⟩)
set_option maxHeartbeats 4000000 in
theorem c_iareaOf (v : Value) (l : List DRect) (W : World) (hv : RRects W v l) : SYields Tryz.prog 20 #[vReg v] (.int .i64 (areaOf l)) W := by
  have hll := hv.len
  have hv' := hv.form
  obtain ⟨_, _, rfl⟩ := hv'
  by_cases hok : regionOk l
  · have h128 := hok.length
    have hbd := fun j => area_take_bd hok j
    have hab := fun (j : Nat) (hj : j < l.length) => inScreen_area (getD_inScreen hok hj)
    (first | apply SYields.mk | apply SYieldsF.mk | skip); refine s_enter Tryz.func20 rfl Tryz.ntmps20 rfl ?_
    repeat' (first | exact rfl | (apply kO; (first | exact ov_pure rfl | (apply kOBin; (first | exact aBin | exact (ov_mul rfl rfl (by have := hab j (by omega); (try simp only [Int.toNat_natCast]); omega)) | exact (ov_add rfl rfl (by have := hab j (by omega); have := hbd j; (try simp only [Int.toNat_natCast]); omega)))) | (apply kOCall; (first | (apply kCallF; (first | exact (ov_call rfl (fun w hw => c_iregionOk _ l w (hv.keep (hw.cells rfl)))))) | (apply kCallB; (first | exact aBlt | exact aLenR)))) | (apply kOLoad; (first | exact (ov_ldRZ (fun w hw => RRow.keep hv (hw.cells rfl)) rfl rfl (by omega) rfl) | exact aLdF | exact aLdR)) | exact ov_fieldAddr rfl | (apply kOIdx; (first | exact (ov_idxR (fun w hw => RRow.keep hv (hw.cells rfl)) rfl rfl (by omega)) | exact aIdx)) | exact aRest | exact aNew | exact (ov_field1 (ft := 31) rfl rfl rfl rfl))) | (refine kN ?_; (first | (refine kStore ?_; (first | refine s_store1 _ rfl rfl gpA rfl (by rfl) ?_ | refine s_storeS _ rfl rfl gpA rfl rfl (by rfl) ?_ | refine s_storeS _ rfl rfl gpA rfl (ones_img oiA) (by rfl) ?_)) | refine s_boxS rfl rfl (fun b hb => ?_) | refine s_allocS rfl (fun b hb => ?_) | refine s_box1 rfl rfl rfl (fun b hb => ?_) | refine s_alloc1 rfl rfl (fun b hb => ?_) | refine s_buildSlice0 rfl (fun b hb => ?_) | refine s_buildSlice rfl rfl rfl rfl rfl (fun b hb => ?_) | apply s_step)) | (refine kG ?_; (first | refine s_gyes rfl rfl rfl ?_ | refine s_gno rfl rfl rfl rfl rfl ?_ | ((first | refine s_split_d rfl rfl (fun h => ?_) (fun h => ?_) | refine s_split_n rfl rfl (fun h => ?_) (fun h => ?_)) <;> (try (first | contradiction | (exfalso; omega) | (exfalso; exact absurd hok (by assumption))))) | refine s_split_nb rfl rfl (fun h => ?_) (fun h => ?_) | refine s_split rfl rfl (fun h => ?_) (fun h => ?_))) | refine l_then ?_ | (refine kC ?_; (first | (refine c_loopV (ι := Nat) (fun j => j ≤ l.length) (fun j => [(3, .int .i64 (area (l.take j))), (12, .int .i64 (j : Int))]) (fun _ => [_]) (fun j => l.length - j) 0 (by omega) rfl (fun _ => rfl) ⟨rfl, rfl, trivial⟩ (fun w hw => hw) (fun j hj => ?_)) | refine c_seq ?_ | refine c_regionN rfl ?_ | refine c_ret ?_ | (refine kCond ?_; (first | refine c_cond_t rfl ?_ | refine c_cond_f rfl ?_ | ((first | refine c_cond_d rfl (fun h => ?_) (fun h => ?_) | refine c_cond_n rfl (fun h => ?_) (fun h => ?_)) <;> (try (first | contradiction | (exfalso; omega) | (exfalso; exact absurd hok (by assumption))))) | refine c_cond_nb rfl (fun h => ?_) (fun h => ?_) | refine c_cond rfl (fun h => ?_) (fun h => ?_))) | refine c_block ?_ | refine c_skip ?_ | refine c_exit ?_ | refine c_regionQN rfl rfl (by decide +kernel) ?_)) | apply s_stepQ | (refine kQG ?_; (first | refine s_gyesQ rfl rfl rfl ?_ | refine s_gnoQ rfl rfl rfl rfl rfl ?_ | ((first | refine s_splitQ_d rfl rfl (fun h => ?_) (fun h => ?_) | refine s_splitQ_n rfl rfl (fun h => ?_) (fun h => ?_)) <;> (try (first | contradiction | (exfalso; omega) | (exfalso; exact absurd hok (by assumption))))) | refine s_splitQ_nb rfl rfl (fun h => ?_) (fun h => ?_) | refine s_splitQ rfl rfl (fun h => ?_) (fun h => ?_))) | refine lQ_then ?_ | refine lQ_ends ?_ | (refine kE ?_; (first | refine e_then_r ?_ | refine e_block_r ?_ | refine e_then_n ?_ | refine e_then_x ?_ | refine e_block_n ?_ | refine e_block_x ?_ | refine e_block_y rfl ?_)) | refine l_ends ?_)
    all_goals first
      | exact e_round (j + 1) (by omega) ⟨slook_to rfl (vint_to (area_take_succ (by omega)).symm), slook_to rfl (vint_to (by push_cast; rfl)), (by repeat' first | exact trivial | refine ⟨rfl, ?_⟩)⟩ (fun w hw => hw.sub (selO_sub [false, true] _ _ rfl)) (by omega)
      | exact s_leave1 rfl rfl (fun w hw => ⟨ret_int (by unfold areaOf; rw [if_pos hok, List.take_of_length_le (by omega)]), hw.below⟩)
  · (first | apply SYields.mk | apply SYieldsF.mk | skip); refine s_enter Tryz.func20 rfl Tryz.ntmps20 rfl ?_
    repeat' (first | exact rfl | (apply kO; (first | exact ov_pure rfl | (apply kOBin; (first | exact aBin)) | (apply kOCall; (first | (apply kCallF; (first | exact (ov_call rfl (fun w hw => c_iregionOk _ l w (hv.keep (hw.cells rfl)))))) | (apply kCallB; (first | exact aBlt | exact aLenR)))) | (apply kOLoad; (first | exact aLdF | exact aLdR)) | exact ov_fieldAddr rfl | (apply kOIdx; (first | exact aIdx)) | exact aRest | exact aNew | exact (ov_field1 (ft := 31) rfl rfl rfl rfl))) | (refine kN ?_; (first | (refine kStore ?_; (first | refine s_store1 _ rfl rfl gpA rfl (by rfl) ?_ | refine s_storeS _ rfl rfl gpA rfl rfl (by rfl) ?_ | refine s_storeS _ rfl rfl gpA rfl (ones_img oiA) (by rfl) ?_)) | refine s_boxS rfl rfl (fun b hb => ?_) | refine s_allocS rfl (fun b hb => ?_) | refine s_box1 rfl rfl rfl (fun b hb => ?_) | refine s_alloc1 rfl rfl (fun b hb => ?_) | refine s_buildSlice0 rfl (fun b hb => ?_) | refine s_buildSlice rfl rfl rfl rfl rfl (fun b hb => ?_) | apply s_step)) | (refine kG ?_; (first | refine s_gyes rfl rfl rfl ?_ | refine s_gno rfl rfl rfl rfl rfl ?_ | ((first | refine s_split_d rfl rfl (fun h => ?_) (fun h => ?_) | refine s_split_n rfl rfl (fun h => ?_) (fun h => ?_)) <;> (try (first | contradiction | (exfalso; omega) | (exfalso; exact absurd (by assumption) hok)))) | refine s_split_nb rfl rfl (fun h => ?_) (fun h => ?_) | refine s_split rfl rfl (fun h => ?_) (fun h => ?_))) | refine l_then ?_ | (refine kC ?_; (first | refine c_seq ?_ | refine c_regionN rfl ?_ | refine c_ret ?_ | (refine kCond ?_; (first | refine c_cond_t rfl ?_ | refine c_cond_f rfl ?_ | ((first | refine c_cond_d rfl (fun h => ?_) (fun h => ?_) | refine c_cond_n rfl (fun h => ?_) (fun h => ?_)) <;> (try (first | contradiction | (exfalso; omega) | (exfalso; exact absurd (by assumption) hok)))) | refine c_cond_nb rfl (fun h => ?_) (fun h => ?_) | refine c_cond rfl (fun h => ?_) (fun h => ?_))) | refine c_block ?_ | refine c_skip ?_ | refine c_exit ?_ | refine c_regionQN rfl rfl (by decide +kernel) ?_)) | apply s_stepQ | (refine kQG ?_; (first | refine s_gyesQ rfl rfl rfl ?_ | refine s_gnoQ rfl rfl rfl rfl rfl ?_ | ((first | refine s_splitQ_d rfl rfl (fun h => ?_) (fun h => ?_) | refine s_splitQ_n rfl rfl (fun h => ?_) (fun h => ?_)) <;> (try (first | contradiction | (exfalso; omega) | (exfalso; exact absurd (by assumption) hok)))) | refine s_splitQ_nb rfl rfl (fun h => ?_) (fun h => ?_) | refine s_splitQ rfl rfl (fun h => ?_) (fun h => ?_))) | refine lQ_then ?_ | refine lQ_ends ?_ | (refine kE ?_; (first | refine e_then_r ?_ | refine e_block_r ?_ | refine e_then_n ?_ | refine e_then_x ?_ | refine e_block_n ?_ | refine e_block_x ?_ | refine e_block_y rfl ?_)) | refine l_ends ?_)
    all_goals exact s_leave1 rfl rfl (fun w hw => ⟨ret_int (by unfold areaOf; rw [if_neg hok]), hw.below⟩)
end Go.Proofs.YtfmjeakcfmmkfaaGreat
/-
  The plain functions, continued: damage as the program and as the reference gather it. No program in sight.
-/
set_option linter.unusedVariables false
namespace Sx
def accG (f : Nat → Grid) : Nat → Grid
  | 0 => Grid.none
  | n + 1 => (accG f n).or (f n)
theorem accG_iff {f : Nat → Grid} {y x : Nat} : ∀ {n : Nat}, accG f n y x = true ↔ ∃ i, i < n ∧ f i y x = true
  | 0 => ⟨fun h => (by cases h), fun ⟨i, h, _⟩ => absurd h (by omega)⟩
  | n + 1 => by
    unfold accG Grid.or
    rw [Bool.or_eq_true, accG_iff (n := n)]
    constructor
    · rintro (⟨i, h1, h2⟩ | h)
      · exact ⟨i, by omega, h2⟩
      · exact ⟨n, by omega, h⟩
    · rintro ⟨i, h1, h2⟩
      by_cases e : i = n
      · subst e; exact .inr h2
      · exact .inl ⟨i, by omega, h2⟩
def damA (a b : DScene) (j : Nat) : Grid :=
  if surfaceIndex b.ss (a.ss.getD j default).Id < 0 then rectG (surfRect (a.ss.getD j default))
  else if a.ss.getD j default = b.ss.getD (surfaceIndex b.ss (a.ss.getD j default).Id).toNat default then Grid.none
  else (rectG (surfRect (a.ss.getD j default))).or (rectG (surfRect (b.ss.getD (surfaceIndex b.ss (a.ss.getD j default).Id).toNat default)))
def damC (a b : DScene) (i k : Nat) : Grid :=
  if surfaceIndex a.ss (b.ss.getD i default).Id < surfaceIndex a.ss (b.ss.getD k default).Id then rectG ((surfRect (b.ss.getD i default)).inter (surfRect (b.ss.getD k default))) else Grid.none
def damB (a b : DScene) (i : Nat) : Grid :=
  if surfaceIndex a.ss (b.ss.getD i default).Id < 0 then rectG (surfRect (b.ss.getD i default)) else accG (damC a b i) i
def damAll (a b : DScene) : Grid := (accG (damA a b) a.ss.length).or (accG (damB a b) b.ss.length)
theorem holds_iff (r : DRect) (y x : Nat) : rectG r y x = true ↔ r.has x y := decide_eq_true_iff
theorem inter_rect {r q : DRect} (hr : r.ok) (hq : q.ok) (y x : Nat) : rectG (r.inter q) y x = true ↔ r.has x y ∧ q.has x y := by rw [holds_iff]; exact inter_has hr hq x y
theorem getD_mem {l : List DSurf} {i : Nat} (h : i < l.length) : l.getD i default ∈ l := mem_getD.2 ⟨i, h, rfl⟩
/-- the surface of the other list with the same Id -/
theorem twin {l : List DSurf} {id : Int} (h : ¬ surfaceIndex l id < 0) : (surfaceIndex l id).toNat < l.length ∧ (l.getD (surfaceIndex l id).toNat default).Id = id := by
  rcases surfaceIndex_bd l id with ⟨h1, _⟩ | ⟨j, h1, h2, h3, _⟩
  · omega
  · rw [h1]; exact ⟨by omega, by simpa using h3⟩
theorem damAll_iff {a b : DScene} (ha : a.ok) (hb : b.ok) (y x : Nat) : damAll a b y x = true ↔ damP a b x y := by
  have hsa := ha.2.2.2.2
  have hsb := hb.2.2.2.2
  unfold damAll Grid.or damP
  rw [Bool.or_eq_true, accG_iff, accG_iff]
  constructor
  · rintro (⟨j, hj, h⟩ | ⟨i, hi, h⟩)
    · unfold damA at h
      split at h
      · rename_i h0
        exact .inl ⟨_, getD_mem hj, fun hm => by have := ((index_same hsb _).1 hm).1; omega, (holds_iff _ _ _).1 h⟩
      · rename_i h0
        split at h
        · cases h
        · rename_i h1
          unfold Grid.or at h
          rw [Bool.or_eq_true] at h
          have ht := twin h0
          rcases h with h | h
          · exact .inl ⟨_, getD_mem hj, fun hm => h1 ((index_same hsb _).1 hm).2.symm, (holds_iff _ _ _).1 h⟩
          · refine .inr (.inl ⟨_, getD_mem ht.1, fun hm => h1 ?_, (holds_iff _ _ _).1 h⟩)
            have := ((index_same hsa _).1 hm).2
            rw [ht.2, surfaceIndex_at hsa hj] at this
            simpa using this
    · unfold damB at h
      split at h
      · rename_i h0
        exact .inr (.inl ⟨_, getD_mem hi, fun hm => by have := ((index_same hsa _).1 hm).1; omega, (holds_iff _ _ _).1 h⟩)
      · rename_i h0
        obtain ⟨k, hk, h⟩ := accG_iff.1 h
        unfold damC at h
        split at h
        · rename_i h1
          have h2 := (inter_rect (surfRect_ok _) (surfRect_ok _) y x).1 h
          exact .inr (.inr ⟨i, k, hk, hi, by omega, h1, h2.1, h2.2⟩)
        · cases h
  · rintro (⟨s, h1, h2, h3⟩ | ⟨s, h1, h2, h3⟩ | ⟨i, k, hk, hi, h1, h2, h3, h4⟩)
    · obtain ⟨j, hj, rfl⟩ := mem_getD.1 h1
      refine .inl ⟨j, hj, ?_⟩
      unfold damA
      split
      · exact (holds_iff _ _ _).2 h3
      · rename_i h0
        rw [if_neg (fun e => h2 (by rw [e]; exact getD_mem (twin h0).1))]
        unfold Grid.or
        rw [(holds_iff _ _ _).2 h3, Bool.true_or]
    · obtain ⟨i, hi, rfl⟩ := mem_getD.1 h1
      by_cases h0 : surfaceIndex a.ss (b.ss.getD i default).Id < 0
      · refine .inr ⟨i, hi, ?_⟩
        unfold damB
        rw [if_pos h0]; exact (holds_iff _ _ _).2 h3
      · have ht := twin h0
        refine .inl ⟨_, ht.1, ?_⟩
        unfold damA
        rw [ht.2, surfaceIndex_at hsb hi, if_neg (by omega), Int.toNat_natCast, if_neg (fun e => h2 (by rw [← e]; exact getD_mem ht.1))]
        unfold Grid.or
        rw [(holds_iff (surfRect (b.ss.getD i default)) _ _).2 h3, Bool.or_true]
    · refine .inr ⟨i, hi, ?_⟩
      unfold damB
      rw [if_neg (by omega)]
      refine accG_iff.2 ⟨k, hk, ?_⟩
      unfold damC
      rw [if_pos h2]
      exact (inter_rect (surfRect_ok _) (surfRect_ok _) y x).2 ⟨h3, h4⟩
theorem damAll_eq {a b : DScene} (ha : a.ok) (hb : b.ok) : damAll a b = damG a b := by
  funext y x
  exact Bool.eq_iff_iff.2 ((damAll_iff ha hb y x).trans (damG_iff a b y x).symm)
/-! the reference's list -/
def dlA (a b : DScene) : Nat → List DRect
  | 0 => []
  | j + 1 => dlA a b j ++ (if surfaceIndex b.ss (a.ss.getD j default).Id < 0 ∨ ¬ a.ss.getD j default = b.ss.getD (surfaceIndex b.ss (a.ss.getD j default).Id).toNat default then [surfRect (a.ss.getD j default)] else [])
def dlC (a b : DScene) (i : Nat) : Nat → List DRect
  | 0 => []
  | k + 1 => dlC a b i k ++ (if 0 ≤ surfaceIndex a.ss (b.ss.getD i default).Id ∧ surfaceIndex a.ss (b.ss.getD i default).Id < surfaceIndex a.ss (b.ss.getD k default).Id then [(surfRect (b.ss.getD i default)).inter (surfRect (b.ss.getD k default))] else [])
def dlO (a b : DScene) (i : Nat) : List DRect := if surfaceIndex a.ss (b.ss.getD i default).Id < 0 ∨ ¬ a.ss.getD (surfaceIndex a.ss (b.ss.getD i default).Id).toNat default = b.ss.getD i default then [surfRect (b.ss.getD i default)] else []
def dlB (a b : DScene) : Nat → List DRect
  | 0 => []
  | i + 1 => dlB a b i ++ (dlO a b i ++ dlC a b i i)
theorem dlA_length (a b : DScene) : ∀ j, (dlA a b j).length ≤ j
  | 0 => Nat.le_refl _
  | j + 1 => by have := dlA_length a b j; unfold dlA; rw [List.length_append]; split <;> simp <;> omega
theorem dlC_length (a b : DScene) (i : Nat) : ∀ j, (dlC a b i j).length ≤ j
  | 0 => Nat.le_refl _
  | j + 1 => by have := dlC_length a b i j; unfold dlC; rw [List.length_append]; split <;> simp <;> omega
theorem dlO_length (a b : DScene) (i : Nat) : (dlO a b i).length ≤ 1 := by unfold dlO; split <;> simp
theorem dlB_length (a b : DScene) : ∀ i, i ≤ 6 → (dlB a b i).length ≤ 7 * i
  | 0, _ => Nat.le_refl _
  | i + 1, h => by
    have := dlB_length a b i (by omega)
    have h2 := dlC_length a b i i
    have h3 := dlO_length a b i
    unfold dlB
    rw [List.length_append, List.length_append]; omega
theorem points_if {p : Prop} [Decidable p] (r : DRect) (y x : Nat) : points (if p then [r] else []) y x = true ↔ p ∧ r.has x y := by
  by_cases h : p
  · rw [if_pos h, points_one, holds_iff]; exact ⟨fun e => ⟨h, e⟩, fun e => e.2⟩
  · rw [if_neg h, points_nil]; exact ⟨fun e => (by cases e), fun e => absurd e.1 h⟩
theorem dlA_iff (a b : DScene) (y x : Nat) : ∀ j, points (dlA a b j) y x = true ↔ ∃ i, i < j ∧ (surfaceIndex b.ss (a.ss.getD i default).Id < 0 ∨ ¬ a.ss.getD i default = b.ss.getD (surfaceIndex b.ss (a.ss.getD i default).Id).toNat default) ∧ (surfRect (a.ss.getD i default)).has x y
  | 0 => ⟨fun h => (by cases h), fun ⟨i, h, _⟩ => absurd h (by omega)⟩
  | j + 1 => by
    unfold dlA
    rw [points_append, Bool.or_eq_true, dlA_iff a b y x j, points_if]
    constructor
    · rintro (⟨i, h1, h2⟩ | h)
      · exact ⟨i, by omega, h2⟩
      · exact ⟨j, by omega, h⟩
    · rintro ⟨i, h1, h2⟩
      by_cases e : i = j
      · subst e; exact .inr h2
      · exact .inl ⟨i, by omega, h2⟩
theorem dlC_iff (a b : DScene) (i : Nat) (y x : Nat) : ∀ j, points (dlC a b i j) y x = true ↔ ∃ k, k < j ∧ (0 ≤ surfaceIndex a.ss (b.ss.getD i default).Id ∧ surfaceIndex a.ss (b.ss.getD i default).Id < surfaceIndex a.ss (b.ss.getD k default).Id) ∧ ((surfRect (b.ss.getD i default)).inter (surfRect (b.ss.getD k default))).has x y
  | 0 => ⟨fun h => (by cases h), fun ⟨i, h, _⟩ => absurd h (by omega)⟩
  | j + 1 => by
    unfold dlC
    rw [points_append, Bool.or_eq_true, dlC_iff a b i y x j, points_if]
    constructor
    · rintro (⟨k, h1, h2⟩ | h)
      · exact ⟨k, by omega, h2⟩
      · exact ⟨j, by omega, h⟩
    · rintro ⟨k, h1, h2⟩
      by_cases e : k = j
      · subst e; exact .inr h2
      · exact .inl ⟨k, by omega, h2⟩
theorem dlB_iff (a b : DScene) (y x : Nat) : ∀ j, points (dlB a b j) y x = true ↔ ∃ i, i < j ∧ (points (dlO a b i) y x = true ∨ points (dlC a b i i) y x = true)
  | 0 => ⟨fun h => (by cases h), fun ⟨i, h, _⟩ => absurd h (by omega)⟩
  | j + 1 => by
    unfold dlB
    rw [points_append, points_append, Bool.or_eq_true, Bool.or_eq_true, dlB_iff a b y x j]
    constructor
    · rintro (⟨i, h1, h2⟩ | h)
      · exact ⟨i, by omega, h2⟩
      · exact ⟨j, by omega, h⟩
    · rintro ⟨i, h1, h2⟩
      by_cases e : i = j
      · subst e; exact .inr h2
      · exact .inl ⟨i, by omega, h2⟩
theorem dl_iff {a b : DScene} (ha : a.ok) (hb : b.ok) (y x : Nat) : points (dlA a b a.ss.length ++ dlB a b b.ss.length) y x = true ↔ damP a b x y := by
  have hsa := ha.2.2.2.2
  have hsb := hb.2.2.2.2
  rw [points_append, Bool.or_eq_true, dlA_iff, dlB_iff]
  unfold damP
  constructor
  · rintro (⟨i, h1, h2, h3⟩ | ⟨i, h1, h2 | h2⟩)
    · refine .inl ⟨_, getD_mem h1, fun hm => ?_, h3⟩
      have := (index_same hsb _).1 hm
      rcases h2 with h2 | h2
      · omega
      · exact h2 this.2.symm
    · have h4 := (points_if _ y x).1 h2
      refine .inr (.inl ⟨_, getD_mem h1, fun hm => ?_, h4.2⟩)
      have := (index_same hsa _).1 hm
      rcases h4.1 with h2 | h2
      · omega
      · exact h2 this.2
    · obtain ⟨k, hk, h3, h4⟩ := (dlC_iff a b i y x i).1 h2
      have h5 := (inter_has (surfRect_ok _) (surfRect_ok _) _ _).1 h4
      exact .inr (.inr ⟨i, k, hk, h1, h3.1, h3.2, h5.1, h5.2⟩)
  · rintro (⟨s, h1, h2, h3⟩ | ⟨s, h1, h2, h3⟩ | ⟨i, k, hk, hi, h1, h2, h3, h4⟩)
    · obtain ⟨j, hj, rfl⟩ := mem_getD.1 h1
      refine .inl ⟨j, hj, ?_, h3⟩
      by_cases h0 : surfaceIndex b.ss (a.ss.getD j default).Id < 0
      · exact .inl h0
      · exact .inr (fun e => h2 (by rw [e]; exact getD_mem (twin h0).1))
    · obtain ⟨i, hi, rfl⟩ := mem_getD.1 h1
      refine .inr ⟨i, hi, .inl ((points_if _ y x).2 ⟨?_, h3⟩)⟩
      by_cases h0 : surfaceIndex a.ss (b.ss.getD i default).Id < 0
      · exact .inl h0
      · exact .inr (fun e => h2 (by rw [← e]; exact getD_mem (twin h0).1))
    · exact .inr ⟨i, hi, .inr ((dlC_iff a b i y x i).2 ⟨k, hk, ⟨h1, h2⟩, (inter_has (surfRect_ok _) (surfRect_ok _) _ _).2 ⟨h3, h4⟩⟩)⟩
/-! a list changed in place -/
def mapFR (f : DRect → DRect) (l : List DRect) (j : Nat) : List DRect := (l.take j).map f ++ l.drop j
theorem mapFR_zero (f : DRect → DRect) (l : List DRect) : mapFR f l 0 = l := by simp [mapFR]
theorem mapFR_all (f : DRect → DRect) (l : List DRect) {j : Nat} (h : l.length ≤ j) : mapFR f l j = l.map f := by simp [mapFR, List.take_of_length_le h, List.drop_of_length_le h]
theorem mapFR_length (f : DRect → DRect) (l : List DRect) (j : Nat) : (mapFR f l j).length = l.length := by simp [mapFR]; omega
theorem mapFR_get (f : DRect → DRect) (l : List DRect) {j : Nat} (h : j < l.length) : (mapFR f l j).getD j DRect.zero = l.getD j DRect.zero := by
  unfold mapFR
  rw [List.getD_eq_getElem?_getD, List.getElem?_append_right (by simp; omega), List.getD_eq_getElem?_getD]
  congr 1
  rw [List.getElem?_drop]
  congr 1
  simp; omega
theorem mapFR_set (f : DRect → DRect) (l : List DRect) {j : Nat} (h : j < l.length) : (mapFR f l j).set j (f (l.getD j DRect.zero)) = mapFR f l (j + 1) := by
  have e : l.drop j = l.getD j DRect.zero :: l.drop (j + 1) := by
    rw [List.drop_eq_getElem_cons h, List.getD_eq_getElem?_getD, List.getElem?_eq_getElem h]; rfl
  unfold mapFR
  rw [List.set_append_right _ _ (by simp; omega), e]
  have h2 : j - ((l.take j).map f).length = 0 := by simp; omega
  rw [h2, List.set_cons_zero, List.take_add_one, List.getElem?_eq_getElem h, List.map_append]
  simp [List.getD_eq_getElem?_getD, List.getElem?_eq_getElem h]
theorem points_map_inter {q : DRect} (hq : q.ok) : ∀ l : List DRect, points (l.map (·.inter q)) = (points l).and (rectG q)
  | [] => by funext y x; rfl
  | r :: l => by
    funext y x
    rw [List.map_cons, points_cons, points_map_inter hq l, inter_holds hq]
    unfold Grid.and
    rw [points_cons, Bool.and_or_distrib_right]; rfl
theorem dl_damage {a b : DScene} (ha : a.ok) (hb : b.ok) : canon (points ((dlA a b a.ss.length ++ dlB a b b.ss.length).map (·.inter (scrR b)))) = canon ((damG a b).and (scrG b)) := by
  rw [points_map_inter (scrR_ok hb)]
  have : points (dlA a b a.ss.length ++ dlB a b b.ss.length) = damG a b := by
    funext y x
    exact Bool.eq_iff_iff.2 ((dl_iff ha hb y x).trans (damG_iff a b y x).symm)
  rw [this]; rfl
end Sx
/-
  The plain functions, continued: how many points are painted. No program in sight.
-/
set_option linter.unusedVariables false
namespace Sx
theorem cnt_add {f : Nat → Bool} {x : Nat} (hf : f x = false) : ∀ n, x < n → cnt (fun i => f i || decide (i = x)) n = cnt f n + 1
  | 0, h => by omega
  | n + 1, h => by
    simp only [cnt]
    by_cases e : x = n
    · subst e
      have h1 : cnt (fun i => f i || decide (i = x)) x = cnt f x := cnt_congr x (fun i hi => by simp [show ¬ i = x by omega])
      have h2 : (if (f x || decide (x = x)) = true then 1 else 0) = (1 : Nat) := by simp
      have h3 : (if f x = true then 1 else 0) = (0 : Nat) := by simp [hf]
      show cnt (fun i => f i || decide (i = x)) x + (if (f x || decide (x = x)) = true then 1 else 0) = _
      rw [h1, h2, h3]
    · rw [cnt_add hf n (by omega)]
      have h2 : (if (f n || decide (n = x)) = true then 1 else 0) = (if f n = true then 1 else 0 : Nat) := by simp [show ¬ n = x by omega]
      show cnt f n + 1 + (if (f n || decide (n = x)) = true then 1 else 0) = _
      rw [h2]; omega
theorem sumN_add {f g : Nat → Nat} {y : Nat} (he : g y = f y + 1) (ho : ∀ i, i ≠ y → g i = f i) : ∀ n, y < n → sumN g n = sumN f n + 1
  | 0, h => by omega
  | n + 1, h => by
    simp only [sumN]
    by_cases e : y = n
    · subst e
      rw [sumN_congr y (fun i hi => ho i (by omega)), he]; omega
    · rw [sumN_add he ho n (by omega), ho n (fun hh => e hh.symm)]; omega
theorem card_add {g h : Grid} {y x : Nat} (hy : y < 16) (hx : x < 16) (hg : g y x = false) (e : h.eqv (fun b a => g b a || decide (b = y ∧ a = x))) : card h = card g + 1 := by
  rw [card_congr e]
  unfold card
  refine sumN_add (y := y) ?_ (fun i hi => ?_) 16 hy
  · have : cnt (fun a => g y a || decide (y = y ∧ a = x)) 16 = cnt (fun a => g y a || decide (a = x)) 16 := cnt_congr 16 (fun a _ => by simp)
    rw [this]; exact cnt_add hg 16 hx
  · exact cnt_congr 16 (fun a _ => by simp [hi])
theorem card_none {g : Grid} (e : g.eqv Grid.none) : card g = 0 := by rw [card_congr e]; decide
/-- the points of g that the first k pixels of the picture reach -/
def hitG (s : DSurf) (g : Grid) (k : Nat) : Grid := fun y x => g y x && decide (hitTo s k x y)
theorem hitN_card {s : DSurf} (hs : s.ok) {g : Grid} {w h : Int} (hw : w ≤ 16) (hh : h ≤ 16) (hg : ∀ y x, y < 16 → x < 16 → g y x = true → (x : Int) < w ∧ (y : Int) < h) :
    ∀ k, k ≤ ((surfSize s).1 * (surfSize s).2).toNat → hitN s g w h k = card (hitG s g k)
  | 0, _ => by
    rw [card_none (g := hitG s g 0) (fun y x _ _ => by
      unfold hitG
      rw [decide_eq_false (hitTo_zero hs x y), Bool.and_false]; rfl)]
    rfl
  | k + 1, hk => by
    have ih := hitN_card hs hw hh hg k (by omega)
    have hsucc := fun (y x : Nat) => hitTo_succ hs (k := k) (by omega) (x : Int) (y : Int)
    unfold hitN
    rw [ih]
    by_cases e : ((0 ≤ kx s k ∧ kx s k ≤ w - 1) ∧ (0 ≤ ky s k ∧ ky s k ≤ h - 1)) ∧ inG g (kx s k) (ky s k) = true
    · rw [if_pos e]
      have hx := Int.toNat_of_nonneg e.1.1.1
      have hy := Int.toNat_of_nonneg e.1.2.1
      have hnot : ¬ hitTo s k ((kx s k).toNat : Int) ((ky s k).toNat : Int) := by rw [hx, hy]; exact hitTo_not hs
      rw [card_add (g := hitG s g k) (h := hitG s g (k + 1)) (y := (ky s k).toNat) (x := (kx s k).toNat) (by omega) (by omega)]
      · push_cast; rfl
      · unfold hitG; rw [decide_eq_false hnot, Bool.and_false]
      · intro b a hb ha
        unfold hitG
        by_cases e2 : b = (ky s k).toNat ∧ a = (kx s k).toNat
        · obtain ⟨rfl, rfl⟩ := e2
          have h1 : hitTo s (k + 1) ((kx s k).toNat : Int) ((ky s k).toNat : Int) := (hsucc _ _).2 (.inr ⟨hx, hy⟩)
          have h2 : g (ky s k).toNat (kx s k).toNat = true := e.2
          rw [h2, decide_eq_true h1]; simp
        · have h1 : decide (hitTo s (k + 1) (a : Int) (b : Int)) = decide (hitTo s k (a : Int) (b : Int)) := decide_eq_decide.2 ((hsucc b a).trans ⟨fun hh => hh.resolve_right (fun h3 => e2 ⟨by omega, by omega⟩), .inl⟩)
          rw [h1]; show _ = (_ || decide _)
          rw [decide_eq_false e2, Bool.or_false]
    · rw [if_neg e, Int.add_zero]
      congr 1
      refine card_congr (fun b a hb ha => ?_)
      unfold hitG
      by_cases e3 : g b a = true
      · have h1 : decide (hitTo s (k + 1) (a : Int) (b : Int)) = decide (hitTo s k (a : Int) (b : Int)) := decide_eq_decide.2 ((hsucc b a).trans ⟨fun hh => hh.resolve_right (fun h3 => e (by
          have h4 := hg b a hb ha e3
          refine ⟨⟨⟨by omega, by omega⟩, by omega, by omega⟩, ?_⟩
          unfold inG
          rw [← h3.1, ← h3.2, Int.toNat_natCast, Int.toNat_natCast]; exact e3)), .inl⟩)
        rw [h1]
      · have : g b a = false := by simpa using e3
        rw [this, Bool.false_and, Bool.false_and]
/-- all pixels of the picture reach all points of g -/
theorem hitN_all {s : DSurf} (hs : s.ok) {g : Grid} {w h : Int} (hw : w ≤ 16) (hh : h ≤ 16) (hg : ∀ y x, y < 16 → x < 16 → g y x = true → ((x : Int) < w ∧ (y : Int) < h) ∧ (rawRect s).has x y) :
    hitN s g w h ((surfSize s).1 * (surfSize s).2).toNat = card g := by
  rw [hitN_card hs hw hh (fun y x hy hx e => (hg y x hy hx e).1) _ (Nat.le_refl _)]
  congr 1
  refine card_congr (fun y x hy hx => ?_)
  unfold hitG
  by_cases e : g y x = true
  · rw [e, decide_eq_true ((hitTo_all hs x y).2 (hg y x hy hx e).2), Bool.true_and]
  · have : g y x = false := by simpa using e
    rw [this, Bool.false_and]
end Sx
/-
  The plain functions, continued: the pixels of a region copied; only what can be seen is painted. No program in sight.
-/
set_option linter.unusedVariables false
namespace Sx
/-- the part that two images have in common -/
def bothR (to fr : DImg) : DRect := ⟨0, 0, min to.W fr.W, min to.H fr.H⟩
def copyTo (to fr : DImg) (g : Grid) (j i : Nat) : Int → Int → Int := boxTo (bothR to fr) (copyF to fr g) to.at j i
theorem copyTo_zero (to fr : DImg) (g : Grid) (ht : to.ok) : mapTo (copyTo to fr g 0 0) to.W (to.W * to.H).toNat = to.data := by
  unfold copyTo; rw [boxTo_zero]; exact ht.self.symm
theorem copyTo_row {to fr : DImg} {g : Grid} {j i : Nat} (hi : (i : Int) = min to.W fr.W) : copyTo to fr g j i = copyTo to fr g (j + 1) 0 := by
  unfold copyTo; exact boxTo_row (by unfold bothR; dsimp only; omega)
theorem copyTo_yes {to fr : DImg} {g : Grid} (ht : to.ok) (hf : fr.ok) {j i : Nat} (hj : (j : Int) < min to.H fr.H) (hi : (i : Int) < min to.W fr.W) (hg : g j i = true) :
    (mapTo (copyTo to fr g j i) to.W (to.W * to.H).toNat).set ((j : Int) * to.W + i).toNat (fr.data.getD ((j : Int) * fr.W + i).toNat 0) = mapTo (copyTo to fr g j (i + 1)) to.W (to.W * to.H).toNat := by
  rw [mapTo_set _ (w := to.W) (h := to.H) (x := (i : Int)) (y := (j : Int)) (by omega) (by omega)]
  congr 1
  unfold copyTo
  rw [boxTo_next (by unfold bothR; dsimp only; omega)]
  unfold bothR
  dsimp only
  funext x y
  rw [Int.zero_add, Int.zero_add]
  have e : copyF to fr g (i : Int) (j : Int) = fr.data.getD ((j : Int) * fr.W + i).toNat 0 := by
    unfold copyF; rw [if_pos ⟨hg, by omega, by omega⟩]; rfl
  rw [e]
theorem copyTo_no {to fr : DImg} {g : Grid} {j i : Nat} (hi : (i : Int) < min to.W fr.W) (hg : ¬ g j i = true) : copyTo to fr g j (i + 1) = copyTo to fr g j i := by
  unfold copyTo
  rw [boxTo_next (by unfold bothR; dsimp only; omega)]
  funext x y
  split
  · rename_i h
    obtain ⟨rfl, rfl⟩ := h
    rw [boxTo_here]
    unfold bothR
    dsimp only
    rw [Int.zero_add, Int.zero_add]
    unfold copyF
    rw [if_neg (fun e => hg e.1)]
  · rfl
theorem copyTo_all {to fr : DImg} {r : List DRect} (ht : to.ok) (hf : fr.ok) (hr : regionOk r) {j : Nat} (hj : (j : Int) = min to.H fr.H) : (⟨to.W, to.H, mapTo (copyTo to fr (points r) j 0) to.W (to.W * to.H).toNat⟩ : DImg) = copyRegion to fr r := by
  unfold copyRegion
  rw [if_pos ⟨ht, hf, hr⟩]
  unfold fimg
  congr 1
  refine mapTo_congr ht.1.1 (fun x y h1 h2 h3 h4 => ?_)
  unfold copyTo
  rw [boxTo_all (by unfold bothR; dsimp only; exact hj)]
  unfold bothR
  dsimp only
  split
  · rfl
  · unfold copyF
    rw [if_neg (by omega)]
theorem copyTo_pix {to fr : DImg} (ht : to.ok) (hf : fr.ok) (g : Grid) (j i : Nat) (x y : Int) : pixP (copyTo to fr g j i x y) :=
  boxTo_pix (fun x y => by unfold copyF; split
                           · exact hf.at_pix _ _
                           · exact ht.at_pix _ _) (fun x y => ht.at_pix _ _) j i x y
/-! only what can be seen -/
/-- pixels after n surfaces, by whole numbers -/
def pvF (s : DScene) (n : Nat) (x y : Int) : Int := pvTo s n x.toNat y.toNat
theorem pvF_pix {s : DScene} (h : s.ok) {n : Nat} (hn : n ≤ s.ss.length) (x y : Int) : pixP (pvF s n x y) := pvTo_pix h n _ _ hn
theorem pvF_zero (s : DScene) : pvF s 0 = paintTo s 0 := by funext x y; rfl
/-- the area that is painted of surface k -/
def pvN (s : DScene) : Nat → Int
  | 0 => (card (((rectG (scrR s)).without (coverG s 0))) : Int)
  | n + 1 => pvN s n + (card (seenG s n) : Int)
theorem pvN_bd (s : DScene) : ∀ n : Nat, 0 ≤ pvN s n ∧ pvN s n ≤ 256 * (n + 1)
  | 0 => by
    have := sumN_le16 (fun y => cnt (((rectG (scrR s)).without (coverG s 0)) y) 16) (fun y => cnt_le _ 16)
    unfold pvN card; omega
  | n + 1 => by
    have := pvN_bd s n
    have h2 := sumN_le16 (fun y => cnt ((seenG s n) y) 16) (fun y => cnt_le _ 16)
    unfold pvN
    have : card (seenG s n) ≤ 256 := h2
    push_cast; omega
def paintVisible (s : DScene) : DImg := if s.ok then fimg (pvF s s.ss.length) s.W s.H else DImg.zero
def visibleCost (s : DScene) : Int := if s.ok then pvN s s.ss.length else 0
theorem paintVisible_eq {s : DScene} (h : s.ok) : paintVisible s = painted s := by
  unfold paintVisible painted
  rw [if_pos h]
  refine fimg_congr h.1.1 (fun x y h1 h2 h3 h4 => ?_)
  have hs : scrG s y.toNat x.toNat = true := (scrG_iff h _ _).2 ⟨by omega, by omega⟩
  have := pv_all h hs
  unfold pvF
  rw [this, show ((x.toNat : Nat) : Int) = x by omega, show ((y.toNat : Nat) : Int) = y by omega]
theorem seenG_in {s : DScene} (h : s.ok) {k y x : Nat} (hh : seenG s k y x = true) : ((x : Int) < s.W ∧ (y : Int) < s.H) ∧ (surfRect (s.ss.getD k default)).has x y := by
  unfold seenG Grid.without Grid.and at hh
  simp only [Bool.and_eq_true] at hh
  exact ⟨(scrG_iff h y x).1 hh.1.2, (holds_iff _ _ _).1 hh.1.1⟩
theorem seenG_hid {s : DScene} (h : s.ok) {k : Nat} (hv : ¬ (s.ss.getD k default).Visible = true) (y x : Nat) : seenG s k y x = false := by
  cases e : seenG s k y x
  · rfl
  · have := (seenG_in h e).2
    rw [surfRect_hid hv] at this
    exact absurd this (zero_has _ _)
/-- a visible surface, as the program paints it -/
theorem pv_one {s : DScene} (h : s.ok) {k : Nat} (hk : k < s.ss.length) (hv : (s.ss.getD k default).Visible = true) :
    mapTo (oneTo (s.ss.getD k default) (seenG s k) (pvF s k) ((surfSize (s.ss.getD k default)).1 * (surfSize (s.ss.getD k default)).2).toNat) s.W (s.W * s.H).toNat = mapTo (pvF s (k + 1)) s.W (s.W * s.H).toNat :=
  mapTo_congr h.1.1 (fun x y h1 h2 h3 h4 => by
    rw [oneTo_all (getD_ok h hk)]
    show _ = pvTo s (k + 1) x.toNat y.toNat
    unfold pvTo inG
    have ex : ((x.toNat : Nat) : Int) = x := by omega
    have ey : ((y.toNat : Nat) : Int) = y := by omega
    by_cases e : seenG s k y.toNat x.toNat = true
    · have h5 := (seenG_in h e).2
      rw [ex, ey, surfRect_vis (getD_ok h hk) hv] at h5
      rw [if_pos ⟨h5, e⟩, if_pos e, ex, ey]
      show over _ (pvTo s k x.toNat y.toNat) = _
      rfl
    · rw [if_neg (fun hh => e hh.2), if_neg e]; rfl)
theorem pv_hid {s : DScene} (h : s.ok) {k : Nat} (hv : ¬ (s.ss.getD k default).Visible = true) : pvF s (k + 1) = pvF s k := by
  funext x y
  show pvTo s (k + 1) x.toNat y.toNat = _
  unfold pvTo
  rw [seenG_hid h hv]; rfl
theorem pvN_one {s : DScene} (h : s.ok) {k : Nat} (hk : k < s.ss.length) (hv : (s.ss.getD k default).Visible = true) :
    pvN s k + hitN (s.ss.getD k default) (seenG s k) s.W s.H ((surfSize (s.ss.getD k default)).1 * (surfSize (s.ss.getD k default)).2).toNat = pvN s (k + 1) := by
  rw [hitN_all (getD_ok h hk) h.1.2 h.2.1.2 (fun y x hy hx e => by
    have := seenG_in h e
    rw [surfRect_vis (getD_ok h hk) hv] at this
    exact this)]
  rfl
theorem pvN_hid {s : DScene} (h : s.ok) {k : Nat} (hv : ¬ (s.ss.getD k default).Visible = true) : pvN s (k + 1) = pvN s k := by
  show pvN s k + (card (seenG s k) : Int) = _
  rw [card_none (fun y x _ _ => seenG_hid h hv y x)]; simp
/-- one row of the reference's way: after i places of row j -/
def seeTo (s : DScene) (k : Nat) (j i : Nat) : Int → Int → Int := boxTo (scrR s) (fun x y => pvF s (k + 1) x y) (pvF s k) j i
theorem seeTo_zero (s : DScene) (k : Nat) : seeTo s k 0 0 = pvF s k := boxTo_zero _ _ _
theorem seeTo_row {s : DScene} {k j i : Nat} (hi : (i : Int) = s.W) : seeTo s k j i = seeTo s k (j + 1) 0 := boxTo_row (by unfold scrR; dsimp only; omega)
theorem seeTo_pix {s : DScene} (h : s.ok) {k : Nat} (hk : k < s.ss.length) (j i : Nat) (x y : Int) : pixP (seeTo s k j i x y) := boxTo_pix (fun x y => pvF_pix h (by omega) x y) (fun x y => pvF_pix h (by omega) x y) j i x y
theorem see_at {s : DScene} (h : s.ok) {k : Nat} (hk : k < s.ss.length) {j i : Nat} (hg : seenG s k j i = true) :
    ((i : Int) < s.W ∧ (j : Int) < s.H) ∧ (0 ≤ (i : Int) - (surfRect (s.ss.getD k default)).X ∧ (i : Int) - (surfRect (s.ss.getD k default)).X < (pictureOf (s.ss.getD k default)).W) ∧ (0 ≤ (j : Int) - (surfRect (s.ss.getD k default)).Y ∧ (j : Int) - (surfRect (s.ss.getD k default)).Y < (pictureOf (s.ss.getD k default)).H)
    ∧ (surfRect (s.ss.getD k default)).X = (s.ss.getD k default).X ∧ (surfRect (s.ss.getD k default)).Y = (s.ss.getD k default).Y := by
  have h1 := seenG_in h hg
  have hq := getD_ok h hk
  by_cases hv : (s.ss.getD k default).Visible = true
  · have hz := surfSize_pic hq
    have h2 := h1.2
    rw [surfRect_vis hq hv] at h2 ⊢
    have h3 := h2.2
    unfold rawRect at h3 ⊢
    dsimp only at h3 ⊢
    rw [hz.1, hz.2]
    omega
  · have h2 := h1.2
    rw [surfRect_hid hv] at h2; exact absurd h2 (zero_has _ _)
theorem see_yes {s : DScene} (h : s.ok) {k : Nat} (hk : k < s.ss.length) {j i : Nat} (hg : seenG s k j i = true) :
    (mapTo (seeTo s k j i) s.W (s.W * s.H).toNat).set ((j : Int) * s.W + i).toNat (over ((pictureOf (s.ss.getD k default)).data.getD (((j : Int) - (surfRect (s.ss.getD k default)).Y) * (pictureOf (s.ss.getD k default)).W + i - (surfRect (s.ss.getD k default)).X).toNat 0) ((mapTo (seeTo s k j i) s.W (s.W * s.H).toNat).getD ((j : Int) * s.W + i).toNat 0))
    = mapTo (seeTo s k j (i + 1)) s.W (s.W * s.H).toNat := by
  have ha := see_at h hk hg
  rw [mapTo_at _ (w := s.W) (h := s.H) (x := (i : Int)) (y := (j : Int)) (by omega) (by omega), mapTo_set _ (w := s.W) (h := s.H) (x := (i : Int)) (y := (j : Int)) (by omega) (by omega)]
  congr 1
  have e0 : seeTo s k j i (i : Int) (j : Int) = pvF s k i j := by
    have := boxTo_here (scrR s) (fun x y => pvF s (k + 1) x y) (pvF s k) j i
    unfold scrR at this
    dsimp only at this
    rw [Int.zero_add, Int.zero_add] at this
    exact this
  rw [e0]
  unfold seeTo
  rw [boxTo_next (by unfold scrR; dsimp only; omega)]
  unfold scrR
  dsimp only
  rw [Int.zero_add, Int.zero_add]
  have e1 : pvF s (k + 1) i j = over ((pictureOf (s.ss.getD k default)).data.getD (((j : Int) - (surfRect (s.ss.getD k default)).Y) * (pictureOf (s.ss.getD k default)).W + i - (surfRect (s.ss.getD k default)).X).toNat 0) (pvF s k i j) := by
    show pvTo s (k + 1) i j = _
    unfold pvTo
    rw [if_pos hg]
    show over (pixOf _ _ _) (pvF s k i j) = _
    congr 1
    rw [ha.2.2.2.1, ha.2.2.2.2, show ((j : Int) - (s.ss.getD k default).Y) * (pictureOf (s.ss.getD k default)).W + i - (s.ss.getD k default).X = ((j : Int) - (s.ss.getD k default).Y) * (pictureOf (s.ss.getD k default)).W + (i - (s.ss.getD k default).X) by omega]
    rfl
  rw [e1]
theorem see_no {s : DScene} {k j i : Nat} (hi : (i : Int) < s.W) (hg : ¬ seenG s k j i = true) : seeTo s k j (i + 1) = seeTo s k j i := by
  unfold seeTo
  rw [boxTo_next (by unfold scrR; dsimp only; omega)]
  funext x y
  split
  · rename_i h
    obtain ⟨rfl, rfl⟩ := h
    rw [boxTo_here]
    unfold scrR
    dsimp only
    rw [Int.zero_add, Int.zero_add]
    show pvTo s (k + 1) i j = pvTo s k i j
    conv => lhs; unfold pvTo
    rw [if_neg hg]
  · rfl
theorem seeTo_all {s : DScene} (h : s.ok) {k j : Nat} (hj : (j : Int) = s.H) : mapTo (seeTo s k j 0) s.W (s.W * s.H).toNat = mapTo (pvF s (k + 1)) s.W (s.W * s.H).toNat :=
  mapTo_congr h.1.1 (fun x y h1 h2 h3 h4 => by
    unfold seeTo
    rw [boxTo_all (by unfold scrR; exact hj)]
    unfold scrR
    dsimp only
    rw [if_pos (by omega)])
theorem areaOf_canon (g : Grid) : areaOf (canon g) = card g := by unfold areaOf; rw [if_pos (regionOk_canon g), area_canon]
theorem back_area {s : DScene} (h : s.ok) : areaOf (withoutOf (canon (points [scrR s])) (coverOf s (-1))) = pvN s 0 := by
  unfold withoutOf
  rw [if_pos ⟨regionOk_canon _, coverOf_ok s _⟩, areaOf_canon]
  unfold pvN
  refine congrArg (fun n : Nat => (n : Int)) (card_congr (fun y x hy hx => ?_))
  unfold Grid.without
  rw [points_canon _ y x hy hx, points_one]
  unfold coverOf
  rw [if_pos ⟨h, by omega⟩, points_canon _ y x hy hx]; rfl
theorem seen_area {s : DScene} (h : s.ok) {k : Nat} (hk : k < s.ss.length) : areaOf (visibleOf s k) = (card (seenG s k) : Int) := by
  unfold visibleOf
  rw [if_pos ⟨h, by omega⟩, areaOf_canon]; rfl
theorem seen_points {s : DScene} (h : s.ok) {k : Nat} (hk : k < s.ss.length) : (points (visibleOf s k)).eqv (seenG s k) := fun y x hy hx => by
  unfold visibleOf
  rw [if_pos ⟨h, by omega⟩, points_canon _ y x hy hx]; rfl
end Sx
/-
  Contracts: a region copied from one image into another; painting into an image; both.
-/
set_option linter.unusedVariables false
namespace Go.Proofs.YtfmjeakcfmmkfaaGreat
open Go Sx
attribute [local irreducible] Exit.then Exit.inBlock bodyPost OVs OInts canonR rowR gvals points Sx.canon painted mapTo copyTo
theorem copyRegion_bad {to fr : DImg} {r : List DRect} (h : ¬ (to.ok ∧ fr.ok ∧ regionOk r)) : copyRegion to fr r = to := by unfold copyRegion; rw [if_neg h]
theorem place_bd {x y w : Int} (hx : 0 ≤ x ∧ x < w) (hy : 0 ≤ y ∧ y ≤ 16) (hw : w ≤ 16) : 0 ≤ y * w ∧ y * w ≤ 256 ∧ 0 ≤ y * w + x ∧ y * w + x ≤ 272 := by
  have := mul_bd (a := y) (b := w) (A := 16) (B := 16) (by omega) (by omega); omega
theorem copy_bit {g : Grid} {j i : Nat} (h : (if g j i = true then ((2 ^ i : Nat) : Int) else 0) ≠ 0) : g j i = true := by
  by_cases e : g j i = true
  · exact e
  · rw [if_neg e] at h; exact absurd rfl h
theorem copy_nobit {g : Grid} {j i : Nat} (h : ¬ (if g j i = true then ((2 ^ i : Nat) : Int) else 0) ≠ 0) : ¬ g j i = true := fun e => h (by
  rw [if_pos e]
  have : 0 < 2 ^ i := Nat.two_pow_pos i
  omega)
theorem copy_bool (g : Grid) {j i : Nat} (hj : j < 16) (hi : i < 16) : (gvals g).getD ((j : Int) * 16 + (i : Int)).toNat false = g j i := by
  rw [show ((j : Int) * 16 + (i : Int)).toNat = j * 16 + i by omega, gvals_at _ hj hi]
set_option maxHeartbeats 4000000 in
theorem c_icopyRegion (to fr : DImg) (r : List DRect) (dt df vr : Value) (W : World) (ht : RInts W dt to.data) (hf : RInts W df fr.data) (hr : RRects W vr r) (hl : to.data.length ≤ 1000000000) :
    SYieldsF Tryz.prog 113 #[vImg to dt, vImg fr df, vReg vr] (fun u H => OImg u (copyRegion to fr r) H) W := by
  have htf := ht.form
  have hff := hf.form
  obtain ⟨_, _, rfl⟩ := htf
  obtain ⟨_, _, rfl⟩ := hff
  by_cases hok : to.ok ∧ fr.ok ∧ regionOk r
  · have hto := hok.1
    have hfo := hok.2.1
    have hW := hto.1
    have hH := hto.2.1
    have hFW := hfo.1
    have hFH := hfo.2.1
    have hml := fun (f : Int → Int → Int) => mapTo_length f to.W (to.W * to.H).toNat
    have hfl := hfo.lenN
    (first | apply SYields.mk | apply SYieldsF.mk | skip); refine s_enter Tryz.func113 rfl Tryz.ntmps113 rfl ?_
    repeat' (first | exact rfl | (apply kO; (first | exact ov_pure rfl | (apply kOBin; (first | exact aBin | exact (ov_andBit rfl rfl (by omega)) | exact (ov_mul rfl rfl (by have := place_bd (x := (i.1 : Int)) (y := (j.1 : Int)) (w := to.W) (by omega) (by omega) (by omega); omega)) | exact (ov_mul rfl rfl (by have := place_bd (x := (i.1 : Int)) (y := (j.1 : Int)) (w := fr.W) (by omega) (by omega) (by omega); omega)) | exact (ov_add rfl rfl (by have := place_bd (x := (i.1 : Int)) (y := (j.1 : Int)) (w := to.W) (by omega) (by omega) (by omega); omega)) | exact (ov_add rfl rfl (by have := place_bd (x := (i.1 : Int)) (y := (j.1 : Int)) (w := fr.W) (by omega) (by omega) (by omega); omega)))) | (apply kOCall; (first | (apply kCallF; (first | exact (ov_call rfl (fun w hw => c_iimageOk to _ w (riA hw))) | exact (ov_call rfl (fun w hw => c_iimageOk fr _ w (riA hw))) | exact (ov_call rfl (fun w hw => c_iregionOk vr r w (hr.keep (hw.cells rfl)))) | exact (ov_call rfl (fun w hw => c_gridOfRegion vr r w (hr.keep (hw.cells rfl)))))) | (apply kCallB; (first | exact aBlt | exact aLenR)))) | (apply kOLoad; (first | exact (ov_ldG (points r) rfl rfl gpA (by omega)) | exact (ov_ldR0 (fun w hw => (rrA hw)) rfl rfl (by have := place_lt (w := fr.W) (h := fr.H) (x := (i.1 : Int)) (y := (j.1 : Int)) (by omega) (by omega); omega) rfl) | exact aLdF | exact aLdR)) | exact ov_fieldAddr rfl | (apply kOIdx; (first | exact (ov_indexAddrA rfl rfl (by omega)) | exact (ov_idxR (fun w hw => (rrA hw)) rfl rfl (by have := place_lt (w := fr.W) (h := fr.H) (x := (i.1 : Int)) (y := (j.1 : Int)) (by omega) (by omega); omega)) | exact (ov_idxR (fun w hw => (rrA hw)) rfl rfl (by rw [hml]; have := place_lt (w := to.W) (h := to.H) (x := (i.1 : Int)) (y := (j.1 : Int)) (by omega) (by omega); omega)) | exact aIdx)) | exact aRest | exact (ov_bit rfl rfl (by omega)) | exact aNew | exact (ov_field1 (ft := 31) rfl rfl rfl rfl))) | (refine kN ?_; (first | (refine kCall ?_; (first | (refine kWFn 112 ?_; (refine s_callF (fun u H => OImg u to H) rfl (fun w hw => c_copyImage to _ w (riA hw) hl) rfl (fun u H hu => ?_); obtain ⟨d', rfl, hu⟩ := hu; have f1 := hu.form; obtain ⟨_, _, rfl⟩ := f1)) | apply s_step)) | (refine kStore ?_; (first | (refine s_setI _ rfl rfl (by assumption) gpA (by rw [hml]; have := place_lt (w := to.W) (h := to.H) (x := (i.1 : Int)) (y := (j.1 : Int)) (by omega) (by omega); omega) (fun H' hu => ?_)) | refine s_store1 _ rfl rfl gpA rfl (by rfl) ?_ | refine s_storeS _ rfl rfl gpA rfl rfl (by rfl) ?_ | refine s_storeS _ rfl rfl gpA rfl (ones_img oiA) (by rfl) ?_)) | refine s_boxS rfl rfl (fun b hb => ?_) | refine s_allocS rfl (fun b hb => ?_) | refine s_box1 rfl rfl rfl (fun b hb => ?_) | refine s_alloc1 rfl rfl (fun b hb => ?_) | refine s_buildSlice0 rfl (fun b hb => ?_) | refine s_buildSlice rfl rfl rfl rfl rfl (fun b hb => ?_) | apply s_step)) | (refine kG ?_; (first | refine s_gyes rfl rfl rfl ?_ | refine s_gno rfl rfl rfl rfl rfl ?_ | ((first | refine s_split_d rfl rfl (fun h => ?_) (fun h => ?_) | refine s_split_n rfl rfl (fun h => ?_) (fun h => ?_)) <;> (try (first | contradiction | (exfalso; omega) | (exfalso; exact absurd hok.1 (by assumption)) | (exfalso; exact absurd hok.2.1 (by assumption)) | (exfalso; exact absurd hok.2.2 (by assumption))))) | refine s_split_nb rfl rfl (fun h => ?_) (fun h => ?_) | refine s_split rfl rfl (fun h => ?_) (fun h => ?_))) | (refine kS ?_; (first | refine h_exec rfl ?_ | refine h_take_nil rfl rfl rfl ?_ | refine h_take_pick rfl rfl rfl ?_ | refine h_nil ?_ | refine h_alt ?_ ?_ | apply h_take)) | (refine kBack ?_; (first | refine h_back_last rfl ?_ | refine h_backN rfl subA ?_)) | refine l_then ?_ | (refine kC ?_; (first | (refine kReg 12 ?_; refine c_regionSN (SPlan.take 0 (SPlan.take 1 (SPlan.take 2 (SPlan.take 3 (SPlan.take 4 (SPlan.take 5 (SPlan.take 6 (SPlan.take 7 (SPlan.take 8 (SPlan.take 9 (SPlan.take 10 (SPlan.take 11 (SPlan.take 12 (SPlan.take 13 (SPlan.take 14 (SPlan.take 15 (SPlan.take 16 (SPlan.take 17 (SPlan.take 18 (SPlan.run 19 SPlan.done)))))))))))))))))))) (some 19) rfl rfl (by decide +kernel) ?_) | (refine kReg 12 ?_; refine c_regionSN (SPlan.take 0 (SPlan.take 1 (SPlan.take 2 (SPlan.take 3 (SPlan.take 4 (SPlan.take 5 (SPlan.take 6 (SPlan.take 7 (SPlan.take 8 (SPlan.take 9 (SPlan.take 10 (SPlan.take 11 (SPlan.take 12 (SPlan.take 13 (SPlan.take 14 (SPlan.take 15 (SPlan.take 16 (SPlan.take 17 (SPlan.take 18 (SPlan.run 19 SPlan.done)))))))))))))))))))) none rfl rfl (by decide +kernel) ?_) | (refine kLoopR 6 ?_; refine c_loopV (ι := Nat × SPiece) (fun j => (j.1 : Int) ≤ min to.H fr.H ∧ OInts 3 _ (mapTo (copyTo to fr (points r) j.1 0) to.W (to.W * to.H).toNat) j.2) (fun j => [(34, .int .i64 (j.1 : Int))]) (fun j => [_, _, j.2, _, _, _, _]) (fun j => (min to.H fr.H).toNat - j.1) (0, _) ⟨by dsimp only; omega, by dsimp only; rw [copyTo_zero to fr (points r) hto]; exact hu⟩ rfl (fun _ => rfl) ⟨rfl, trivial⟩ (fun w hw => hw) (fun j hj => ?_); obtain ⟨hj1, hj2⟩ := hj) | (refine kLoopR 9 ?_; refine c_loopV (ι := Nat × SPiece) (fun i => (i.1 : Int) ≤ min to.W fr.W ∧ OInts 3 _ (mapTo (copyTo to fr (points r) j.1 i.1) to.W (to.W * to.H).toNat) i.2) (fun i => [(42, .int .i64 (i.1 : Int))]) (fun i => [_, _, i.2, _, _, _, _]) (fun i => (min to.W fr.W).toNat - i.1) (0, _) ⟨by dsimp only; omega, hj2⟩ rfl (fun _ => rfl) ⟨rfl, trivial⟩ (fun w hw => hw) (fun i hi => ?_); obtain ⟨hi1, hi2⟩ := hi) | refine c_seq ?_ | refine c_regionN rfl ?_ | refine c_ret ?_ | (refine kCond ?_; (first | refine c_cond_t rfl ?_ | refine c_cond_f rfl ?_ | ((first | refine c_cond_d rfl (fun h => ?_) (fun h => ?_) | refine c_cond_n rfl (fun h => ?_) (fun h => ?_)) <;> (try (first | contradiction | (exfalso; omega) | (exfalso; exact absurd hok.1 (by assumption)) | (exfalso; exact absurd hok.2.1 (by assumption)) | (exfalso; exact absurd hok.2.2 (by assumption))))) | refine c_cond_nb rfl (fun h => ?_) (fun h => ?_) | refine c_cond rfl (fun h => ?_) (fun h => ?_))) | refine c_block ?_ | refine c_skip ?_ | refine c_exit ?_ | refine c_regionQN rfl rfl (by decide +kernel) ?_)) | apply s_stepQ | (refine kQG ?_; (first | refine s_gyesQ rfl rfl rfl ?_ | refine s_gnoQ rfl rfl rfl rfl rfl ?_ | ((first | refine s_splitQ_d rfl rfl (fun h => ?_) (fun h => ?_) | refine s_splitQ_n rfl rfl (fun h => ?_) (fun h => ?_)) <;> (try (first | contradiction | (exfalso; omega) | (exfalso; exact absurd hok.1 (by assumption)) | (exfalso; exact absurd hok.2.1 (by assumption)) | (exfalso; exact absurd hok.2.2 (by assumption))))) | refine s_splitQ_nb rfl rfl (fun h => ?_) (fun h => ?_) | refine s_splitQ rfl rfl (fun h => ?_) (fun h => ?_))) | refine lQ_then ?_ | refine lQ_ends ?_ | (refine kE ?_; (first | refine e_then_r ?_ | refine e_block_r ?_ | refine e_then_n ?_ | refine e_then_x ?_ | refine e_block_n ?_ | refine e_block_x ?_ | refine e_block_y rfl ?_)) | refine l_ends ?_)
    · have hg : points r j.1 i.1 = true := copy_bit h
      rw [copyTo_yes hto hfo (by omega) (by omega) hg] at hu
      exact e_round (i.1 + 1, H') ⟨by dsimp only; omega, hu⟩ ⟨slook_to rfl (vint_to (by push_cast; rfl)), (by repeat' first | exact trivial | refine ⟨rfl, ?_⟩)⟩ (fun w hw => hw) (by dsimp only; omega)
    · have hg : ¬ points r j.1 i.1 = true := copy_nobit h
      exact e_round (i.1 + 1, i.2) ⟨by dsimp only; omega, by dsimp only; rw [copyTo_no (by omega) hg]; exact hi2⟩ ⟨slook_to rfl (vint_to (by push_cast; rfl)), (by repeat' first | exact trivial | refine ⟨rfl, ?_⟩)⟩ (fun w hw => hw) (by dsimp only; omega)
    · rw [copyTo_row (by omega)] at hi2
      exact e_round (j.1 + 1, i.2) ⟨by dsimp only; omega, hi2⟩ ⟨slook_to rfl (vint_to (by push_cast; rfl)), (by repeat' first | exact trivial | refine ⟨rfl, ?_⟩)⟩ (fun w hw => hw) (by dsimp only; omega)
    · rw [← copyTo_all hto hfo hok.2.2 (show (j.1 : Int) = min to.H fr.H by omega)]
      exact s_leaveSF rfl rfl rfl fwA (fun w hw => ⟨_, _, rfl, ⟨_, rfl, hj2⟩, hw.toFresh (H := j.2) gpA⟩)
  · rw [copyRegion_bad hok]
    (first | apply SYields.mk | apply SYieldsF.mk | skip); refine s_enter Tryz.func113 rfl Tryz.ntmps113 rfl ?_
    repeat' (first | exact rfl | (apply kO; (first | exact ov_pure rfl | (apply kOBin; (first | exact aBin)) | (apply kOCall; (first | (apply kCallF; (first | exact (ov_call rfl (fun w hw => c_iimageOk to _ w (riA hw))) | exact (ov_call rfl (fun w hw => c_iimageOk fr _ w (riA hw))) | exact (ov_call rfl (fun w hw => c_iregionOk vr r w (hr.keep (hw.cells rfl)))))) | (apply kCallB; (first | exact aBlt | exact aLenR)))) | (apply kOLoad; (first | exact aLdF | exact aLdR)) | exact ov_fieldAddr rfl | (apply kOIdx; (first | exact aIdx)) | exact aRest | exact aNew | exact (ov_field1 (ft := 31) rfl rfl rfl rfl))) | (refine kN ?_; (first | (refine kCall ?_; (first | (refine kWFn 112 ?_; (refine s_callF (fun u H => OImg u to H) rfl (fun w hw => c_copyImage to _ w (riA hw) hl) rfl (fun u H hu => ?_); obtain ⟨d', rfl, hu⟩ := hu; have f1 := hu.form; obtain ⟨_, _, rfl⟩ := f1)) | apply s_step)) | (refine kStore ?_; (first | refine s_store1 _ rfl rfl gpA rfl (by rfl) ?_ | refine s_storeS _ rfl rfl gpA rfl rfl (by rfl) ?_ | refine s_storeS _ rfl rfl gpA rfl (ones_img oiA) (by rfl) ?_)) | refine s_boxS rfl rfl (fun b hb => ?_) | refine s_allocS rfl (fun b hb => ?_) | refine s_box1 rfl rfl rfl (fun b hb => ?_) | refine s_alloc1 rfl rfl (fun b hb => ?_) | refine s_buildSlice0 rfl (fun b hb => ?_) | refine s_buildSlice rfl rfl rfl rfl rfl (fun b hb => ?_) | apply s_step)) | (refine kG ?_; (first | refine s_gyes rfl rfl rfl ?_ | refine s_gno rfl rfl rfl rfl rfl ?_ | ((first | refine s_split_d rfl rfl (fun h => ?_) (fun h => ?_) | refine s_split_n rfl rfl (fun h => ?_) (fun h => ?_)) <;> (try (first | contradiction | (exfalso; omega) | (exfalso; exact absurd ⟨by assumption, by assumption, by assumption⟩ hok)))) | refine s_split_nb rfl rfl (fun h => ?_) (fun h => ?_) | refine s_split rfl rfl (fun h => ?_) (fun h => ?_))) | refine l_then ?_ | (refine kC ?_; (first | refine c_seq ?_ | refine c_regionN rfl ?_ | refine c_ret ?_ | (refine kCond ?_; (first | refine c_cond_t rfl ?_ | refine c_cond_f rfl ?_ | ((first | refine c_cond_d rfl (fun h => ?_) (fun h => ?_) | refine c_cond_n rfl (fun h => ?_) (fun h => ?_)) <;> (try (first | contradiction | (exfalso; omega) | (exfalso; exact absurd ⟨by assumption, by assumption, by assumption⟩ hok)))) | refine c_cond_nb rfl (fun h => ?_) (fun h => ?_) | refine c_cond rfl (fun h => ?_) (fun h => ?_))) | refine c_block ?_ | refine c_skip ?_ | refine c_exit ?_ | refine c_regionQN rfl rfl (by decide +kernel) ?_)) | apply s_stepQ | (refine kQG ?_; (first | refine s_gyesQ rfl rfl rfl ?_ | refine s_gnoQ rfl rfl rfl rfl rfl ?_ | ((first | refine s_splitQ_d rfl rfl (fun h => ?_) (fun h => ?_) | refine s_splitQ_n rfl rfl (fun h => ?_) (fun h => ?_)) <;> (try (first | contradiction | (exfalso; omega) | (exfalso; exact absurd ⟨by assumption, by assumption, by assumption⟩ hok)))) | refine s_splitQ_nb rfl rfl (fun h => ?_) (fun h => ?_) | refine s_splitQ rfl rfl (fun h => ?_) (fun h => ?_))) | refine lQ_then ?_ | refine lQ_ends ?_ | (refine kE ?_; (first | refine e_then_r ?_ | refine e_block_r ?_ | refine e_then_n ?_ | refine e_then_x ?_ | refine e_block_n ?_ | refine e_block_x ?_ | refine e_block_y rfl ?_)) | refine l_ends ?_)
    all_goals (refine kE ?_; refine s_leaveSF rfl rfl rfl fwA (fun w hw => ?_))
    all_goals exact ⟨_, _, rfl, ⟨_, rfl, hu⟩, hw.toFresh (H := H) gpA⟩
set_option maxHeartbeats 4000000 in
theorem c_scopyRegion (to fr : DImg) (r : List DRect) (dt df vr : Value) (W : World) (ht : RInts W dt to.data) (hf : RInts W df fr.data) (hr : RRects W vr r) (hl : to.data.length ≤ 1000000000) :
    SYieldsF Tryz.prog 110 #[vImg to dt, vImg fr df, vReg vr] (fun u H => OImg u (copyRegion to fr r) H) W := by
  have htf := ht.form
  have hff := hf.form
  obtain ⟨_, _, rfl⟩ := htf
  obtain ⟨_, _, rfl⟩ := hff
  by_cases hok : to.ok ∧ fr.ok ∧ regionOk r
  · have hto := hok.1
    have hfo := hok.2.1
    have hW := hto.1
    have hH := hto.2.1
    have hFW := hfo.1
    have hFH := hfo.2.1
    have hml := fun (f : Int → Int → Int) => mapTo_length f to.W (to.W * to.H).toNat
    have hfl := hfo.lenN
    have hgl := gvals_length (points r)
    (first | apply SYields.mk | apply SYieldsF.mk | skip); refine s_enter Tryz.func110 rfl Tryz.ntmps110 rfl ?_
    repeat' (first | exact rfl | (apply kO; (first | exact ov_pure rfl | (apply kOBin; (first | exact aBin | exact (ov_mul rfl rfl (by have := place_bd (x := (i.1 : Int)) (y := (j.1 : Int)) (w := to.W) (by omega) (by omega) (by omega); omega)) | exact (ov_mul rfl rfl (by have := place_bd (x := (i.1 : Int)) (y := (j.1 : Int)) (w := fr.W) (by omega) (by omega) (by omega); omega)) | exact (ov_add rfl rfl (by have := place_bd (x := (i.1 : Int)) (y := (j.1 : Int)) (w := to.W) (by omega) (by omega) (by omega); omega)) | exact (ov_add rfl rfl (by have := place_bd (x := (i.1 : Int)) (y := (j.1 : Int)) (w := fr.W) (by omega) (by omega) (by omega); omega)))) | (apply kOCall; (first | (apply kCallF; (first | exact (ov_call rfl (fun w hw => c_simageOk to _ w (riA hw))) | exact (ov_call rfl (fun w hw => c_simageOk fr _ w (riA hw))) | exact (ov_call rfl (fun w hw => c_sregionOk vr r w (hr.keep (hw.cells rfl)))))) | (apply kCallB; (first | exact aBlt | exact aLenR)))) | (apply kOLoad; (first | exact (ov_ldR0 (fun w hw => OBools.rd hq (hfA hw)) rfl rfl (by rw [hgl]; omega) rfl) | exact (ov_ldR0 (fun w hw => (rrA hw)) rfl rfl (by have := place_lt (w := fr.W) (h := fr.H) (x := (i.1 : Int)) (y := (j.1 : Int)) (by omega) (by omega); omega) rfl) | exact aLdF | exact aLdR)) | exact ov_fieldAddr rfl | (apply kOIdx; (first | exact (ov_idxR (fun w hw => OBools.rd hq (hfA hw)) rfl rfl (by rw [hgl]; omega)) | exact (ov_idxR (fun w hw => (rrA hw)) rfl rfl (by have := place_lt (w := fr.W) (h := fr.H) (x := (i.1 : Int)) (y := (j.1 : Int)) (by omega) (by omega); omega)) | exact (ov_idxR (fun w hw => (rrA hw)) rfl rfl (by rw [hml]; have := place_lt (w := to.W) (h := to.H) (x := (i.1 : Int)) (y := (j.1 : Int)) (by omega) (by omega); omega)) | exact aIdx)) | exact aRest | exact aNew | exact (ov_field1 (ft := 31) rfl rfl rfl rfl))) | (refine kN ?_; (first | (refine kCall ?_; (first | (refine kWFn 98 ?_; (refine s_callF (fun u H => OBools u (gvals (points r)) H) rfl (fun w hw => c_l03Grid vr r w (hr.keep (hw.cells rfl))) rfl (fun u H hq => ?_); have f1 := OVs.form hq; obtain ⟨_, _, rfl⟩ := f1)) | (refine kWFn 109 ?_; (refine s_callF (fun u H => OImg u to H) rfl (fun w hw => c_l05Copy to _ w (riA hw) hl) rfl (fun u H hu => ?_); obtain ⟨d', rfl, hu⟩ := hu; have f1 := hu.form; obtain ⟨_, _, rfl⟩ := f1)) | apply s_step)) | (refine kStore ?_; (first | (refine s_setI _ rfl rfl (by assumption) gpA (by rw [hml]; have := place_lt (w := to.W) (h := to.H) (x := (i.1 : Int)) (y := (j.1 : Int)) (by omega) (by omega); omega) (fun H' hu => ?_)) | refine s_store1 _ rfl rfl gpA rfl (by rfl) ?_ | refine s_storeS _ rfl rfl gpA rfl rfl (by rfl) ?_ | refine s_storeS _ rfl rfl gpA rfl (ones_img oiA) (by rfl) ?_)) | refine s_boxS rfl rfl (fun b hb => ?_) | refine s_allocS rfl (fun b hb => ?_) | refine s_box1 rfl rfl rfl (fun b hb => ?_) | refine s_alloc1 rfl rfl (fun b hb => ?_) | refine s_buildSlice0 rfl (fun b hb => ?_) | refine s_buildSlice rfl rfl rfl rfl rfl (fun b hb => ?_) | apply s_step)) | (refine kG ?_; (first | refine s_gyes rfl rfl rfl ?_ | refine s_gno rfl rfl rfl rfl rfl ?_ | ((first | refine s_split_d rfl rfl (fun h => ?_) (fun h => ?_) | refine s_split_n rfl rfl (fun h => ?_) (fun h => ?_)) <;> (try (first | contradiction | (exfalso; omega) | (exfalso; exact absurd hok.1 (by assumption)) | (exfalso; exact absurd hok.2.1 (by assumption)) | (exfalso; exact absurd hok.2.2 (by assumption))))) | refine s_split_nb rfl rfl (fun h => ?_) (fun h => ?_) | refine s_split rfl rfl (fun h => ?_) (fun h => ?_))) | (refine kS ?_; (first | refine h_exec rfl ?_ | refine h_take_nil rfl rfl rfl ?_ | refine h_take_pick rfl rfl rfl ?_ | refine h_nil ?_ | refine h_alt ?_ ?_ | apply h_take)) | (refine kBack ?_; (first | refine h_back_last rfl ?_ | refine h_backN rfl subA ?_)) | refine l_then ?_ | (refine kC ?_; (first | (refine kReg 12 ?_; refine c_regionSN (SPlan.take 0 (SPlan.take 1 (SPlan.take 2 (SPlan.take 3 (SPlan.take 4 (SPlan.take 5 (SPlan.take 6 (SPlan.take 7 (SPlan.take 8 (SPlan.take 9 (SPlan.take 10 (SPlan.take 11 (SPlan.take 12 (SPlan.take 13 (SPlan.take 14 (SPlan.take 15 (SPlan.take 16 (SPlan.take 17 (SPlan.take 18 (SPlan.run 19 SPlan.done)))))))))))))))))))) (some 19) rfl rfl (by decide +kernel) ?_) | (refine kReg 12 ?_; refine c_regionSN (SPlan.take 0 (SPlan.take 1 (SPlan.take 2 (SPlan.take 3 (SPlan.take 4 (SPlan.take 5 (SPlan.take 6 (SPlan.take 7 (SPlan.take 8 (SPlan.take 9 (SPlan.take 10 (SPlan.take 11 (SPlan.take 12 (SPlan.take 13 (SPlan.take 14 (SPlan.take 15 (SPlan.take 16 (SPlan.take 17 (SPlan.take 18 (SPlan.run 19 SPlan.done)))))))))))))))))))) none rfl rfl (by decide +kernel) ?_) | (refine kLoop 6 ?_; refine c_loopV (ι := Nat × SPiece) (fun j => (j.1 : Int) ≤ min to.H fr.H ∧ OInts 3 _ (mapTo (copyTo to fr (points r) j.1 0) to.W (to.W * to.H).toNat) j.2) (fun j => [(9, .int .i64 (j.1 : Int))]) (fun j => [_, _, j.2, _, _, _, _]) (fun j => (min to.H fr.H).toNat - j.1) (0, _) ⟨by dsimp only; omega, by dsimp only; rw [copyTo_zero to fr (points r) hto]; exact hu⟩ rfl (fun _ => rfl) ⟨rfl, trivial⟩ (fun w hw => hw) (fun j hj => ?_); obtain ⟨hj1, hj2⟩ := hj) | (refine kLoop 9 ?_; refine c_loopV (ι := Nat × SPiece) (fun i => (i.1 : Int) ≤ min to.W fr.W ∧ OInts 3 _ (mapTo (copyTo to fr (points r) j.1 i.1) to.W (to.W * to.H).toNat) i.2) (fun i => [(10, .int .i64 (i.1 : Int))]) (fun i => [_, _, i.2, _, _, _, _]) (fun i => (min to.W fr.W).toNat - i.1) (0, _) ⟨by dsimp only; omega, hj2⟩ rfl (fun _ => rfl) ⟨rfl, trivial⟩ (fun w hw => hw) (fun i hi => ?_); obtain ⟨hi1, hi2⟩ := hi) | refine c_seq ?_ | refine c_regionN rfl ?_ | refine c_ret ?_ | (refine kCond ?_; (first | refine c_cond_t rfl ?_ | refine c_cond_f rfl ?_ | ((first | refine c_cond_d rfl (fun h => ?_) (fun h => ?_) | refine c_cond_n rfl (fun h => ?_) (fun h => ?_)) <;> (try (first | contradiction | (exfalso; omega) | (exfalso; exact absurd hok.1 (by assumption)) | (exfalso; exact absurd hok.2.1 (by assumption)) | (exfalso; exact absurd hok.2.2 (by assumption))))) | refine c_cond_nb rfl (fun h => ?_) (fun h => ?_) | refine c_cond rfl (fun h => ?_) (fun h => ?_))) | refine c_block ?_ | refine c_skip ?_ | refine c_exit ?_ | refine c_regionQN rfl rfl (by decide +kernel) ?_)) | apply s_stepQ | (refine kQG ?_; (first | refine s_gyesQ rfl rfl rfl ?_ | refine s_gnoQ rfl rfl rfl rfl rfl ?_ | ((first | refine s_splitQ_d rfl rfl (fun h => ?_) (fun h => ?_) | refine s_splitQ_n rfl rfl (fun h => ?_) (fun h => ?_)) <;> (try (first | contradiction | (exfalso; omega) | (exfalso; exact absurd hok.1 (by assumption)) | (exfalso; exact absurd hok.2.1 (by assumption)) | (exfalso; exact absurd hok.2.2 (by assumption))))) | refine s_splitQ_nb rfl rfl (fun h => ?_) (fun h => ?_) | refine s_splitQ rfl rfl (fun h => ?_) (fun h => ?_))) | refine lQ_then ?_ | refine lQ_ends ?_ | (refine kE ?_; (first | refine e_then_r ?_ | refine e_block_r ?_ | refine e_then_n ?_ | refine e_then_x ?_ | refine e_block_n ?_ | refine e_block_x ?_ | refine e_block_y rfl ?_)) | refine l_ends ?_)
    · have hg : points r j.1 i.1 = true := by rw [← copy_bool (points r) (j := j.1) (i := i.1) (by omega) (by omega)]; exact h
      rw [copyTo_yes hto hfo (by omega) (by omega) hg] at hu
      exact e_round (i.1 + 1, H') ⟨by dsimp only; omega, hu⟩ ⟨slook_to rfl (vint_to (by push_cast; rfl)), (by repeat' first | exact trivial | refine ⟨rfl, ?_⟩)⟩ (fun w hw => hw) (by dsimp only; omega)
    · have hg : ¬ points r j.1 i.1 = true := by rw [← copy_bool (points r) (j := j.1) (i := i.1) (by omega) (by omega), h]; simp
      exact e_round (i.1 + 1, i.2) ⟨by dsimp only; omega, by dsimp only; rw [copyTo_no (by omega) hg]; exact hi2⟩ ⟨slook_to rfl (vint_to (by push_cast; rfl)), (by repeat' first | exact trivial | refine ⟨rfl, ?_⟩)⟩ (fun w hw => hw) (by dsimp only; omega)
    · rw [copyTo_row (by omega)] at hi2
      exact e_round (j.1 + 1, i.2) ⟨by dsimp only; omega, hi2⟩ ⟨slook_to rfl (vint_to (by push_cast; rfl)), (by repeat' first | exact trivial | refine ⟨rfl, ?_⟩)⟩ (fun w hw => hw) (by dsimp only; omega)
    · rw [← copyTo_all hto hfo hok.2.2 (show (j.1 : Int) = min to.H fr.H by omega)]
      exact s_leaveSF rfl rfl rfl fwA (fun w hw => ⟨_, _, rfl, ⟨_, rfl, hj2⟩, hw.toFresh (H := j.2) gpA⟩)
  · rw [copyRegion_bad hok]
    (first | apply SYields.mk | apply SYieldsF.mk | skip); refine s_enter Tryz.func110 rfl Tryz.ntmps110 rfl ?_
    repeat' (first | exact rfl | (apply kO; (first | exact ov_pure rfl | (apply kOBin; (first | exact aBin)) | (apply kOCall; (first | (apply kCallF; (first | exact (ov_call rfl (fun w hw => c_simageOk to _ w (riA hw))) | exact (ov_call rfl (fun w hw => c_simageOk fr _ w (riA hw))) | exact (ov_call rfl (fun w hw => c_sregionOk vr r w (hr.keep (hw.cells rfl)))))) | (apply kCallB; (first | exact aBlt | exact aLenR)))) | (apply kOLoad; (first | exact aLdF | exact aLdR)) | exact ov_fieldAddr rfl | (apply kOIdx; (first | exact aIdx)) | exact aRest | exact aNew | exact (ov_field1 (ft := 31) rfl rfl rfl rfl))) | (refine kN ?_; (first | (refine kCall ?_; (first | (refine kWFn 109 ?_; (refine s_callF (fun u H => OImg u to H) rfl (fun w hw => c_l05Copy to _ w (riA hw) hl) rfl (fun u H hu => ?_); obtain ⟨d', rfl, hu⟩ := hu; have f1 := hu.form; obtain ⟨_, _, rfl⟩ := f1)) | apply s_step)) | (refine kStore ?_; (first | refine s_store1 _ rfl rfl gpA rfl (by rfl) ?_ | refine s_storeS _ rfl rfl gpA rfl rfl (by rfl) ?_ | refine s_storeS _ rfl rfl gpA rfl (ones_img oiA) (by rfl) ?_)) | refine s_boxS rfl rfl (fun b hb => ?_) | refine s_allocS rfl (fun b hb => ?_) | refine s_box1 rfl rfl rfl (fun b hb => ?_) | refine s_alloc1 rfl rfl (fun b hb => ?_) | refine s_buildSlice0 rfl (fun b hb => ?_) | refine s_buildSlice rfl rfl rfl rfl rfl (fun b hb => ?_) | apply s_step)) | (refine kG ?_; (first | refine s_gyes rfl rfl rfl ?_ | refine s_gno rfl rfl rfl rfl rfl ?_ | ((first | refine s_split_d rfl rfl (fun h => ?_) (fun h => ?_) | refine s_split_n rfl rfl (fun h => ?_) (fun h => ?_)) <;> (try (first | contradiction | (exfalso; omega) | (exfalso; exact absurd ⟨by assumption, by assumption, by assumption⟩ hok)))) | refine s_split_nb rfl rfl (fun h => ?_) (fun h => ?_) | refine s_split rfl rfl (fun h => ?_) (fun h => ?_))) | refine l_then ?_ | (refine kC ?_; (first | refine c_seq ?_ | refine c_regionN rfl ?_ | refine c_ret ?_ | (refine kCond ?_; (first | refine c_cond_t rfl ?_ | refine c_cond_f rfl ?_ | ((first | refine c_cond_d rfl (fun h => ?_) (fun h => ?_) | refine c_cond_n rfl (fun h => ?_) (fun h => ?_)) <;> (try (first | contradiction | (exfalso; omega) | (exfalso; exact absurd ⟨by assumption, by assumption, by assumption⟩ hok)))) | refine c_cond_nb rfl (fun h => ?_) (fun h => ?_) | refine c_cond rfl (fun h => ?_) (fun h => ?_))) | refine c_block ?_ | refine c_skip ?_ | refine c_exit ?_ | refine c_regionQN rfl rfl (by decide +kernel) ?_)) | apply s_stepQ | (refine kQG ?_; (first | refine s_gyesQ rfl rfl rfl ?_ | refine s_gnoQ rfl rfl rfl rfl rfl ?_ | ((first | refine s_splitQ_d rfl rfl (fun h => ?_) (fun h => ?_) | refine s_splitQ_n rfl rfl (fun h => ?_) (fun h => ?_)) <;> (try (first | contradiction | (exfalso; omega) | (exfalso; exact absurd ⟨by assumption, by assumption, by assumption⟩ hok)))) | refine s_splitQ_nb rfl rfl (fun h => ?_) (fun h => ?_) | refine s_splitQ rfl rfl (fun h => ?_) (fun h => ?_))) | refine lQ_then ?_ | refine lQ_ends ?_ | (refine kE ?_; (first | refine e_then_r ?_ | refine e_block_r ?_ | refine e_then_n ?_ | refine e_then_x ?_ | refine e_block_n ?_ | refine e_block_x ?_ | refine e_block_y rfl ?_)) | refine l_ends ?_)
    all_goals (refine kE ?_; refine s_leaveSF rfl rfl rfl fwA (fun w hw => ?_))
    all_goals exact ⟨_, _, rfl, ⟨_, rfl, hu⟩, hw.toFresh (H := H) gpA⟩
end Go.Proofs.YtfmjeakcfmmkfaaGreat
/-
  Contracts: painting a region of a scene into an image; both.
-/
set_option linter.unusedVariables false
namespace Sx
theorem copyRegion_len (to fr : DImg) (r : List DRect) : (copyRegion to fr r).data.length = to.data.length := by
  unfold copyRegion; split
  · rename_i h
    have := h.1.lenN
    unfold fimg
    rw [mapTo_length, this]
  · rfl
theorem paintInto_len (i : DImg) (s : DScene) (r : List DRect) : (paintInto i s r).data.length = i.data.length := by
  unfold paintInto; split
  · exact copyRegion_len _ _ _
  · rfl
end Sx
namespace Go.Proofs.YtfmjeakcfmmkfaaGreat
open Go Sx
attribute [local irreducible] Exit.then Exit.inBlock bodyPost OVs OInts painted copyRegion
set_option maxHeartbeats 2000000 in
theorem c_ipaintInto (i : DImg) (s : DScene) (r : List DRect) (di v vr : Value) (W : World) (hi : RInts W di i.data) (hv : RS eSurf W v s.ss) (hr : RRects W vr r) (hl : i.data.length ≤ 1000000000) :
    SYieldsF Tryz.prog 45 #[vImg i di, vScene s v, vReg vr] (fun u H => OImg u (paintInto i s r) H) W := by
  have hif := hi.form
  obtain ⟨_, _, rfl⟩ := hif
  have hrf := hr.form
  obtain ⟨_, _, rfl⟩ := hrf
  by_cases hok : s.ok
  · have hp : paintInto i s r = copyRegion i (painted s) r := by unfold paintInto; rw [if_pos hok]
    rw [hp]
    (first | apply SYields.mk | apply SYieldsF.mk | skip); refine s_enter Tryz.func45 rfl Tryz.ntmps45 rfl ?_
    repeat' (first | exact rfl | (apply kO; (first | exact ov_pure rfl | (apply kOBin; (first | exact aBin)) | (apply kOCall; (first | (apply kCallF; (first | exact (ov_call rfl (fun w hw => c_isceneOk _ _ w (hv.keep (hw.cells rfl)))))) | (apply kCallB; (first | exact aBlt | exact aLenR)))) | (apply kOLoad; (first | exact aLdF | exact aLdR)) | exact ov_fieldAddr rfl | (apply kOIdx; (first | exact aIdx)) | exact aRest | exact aNew | exact (ov_field1 (ft := 31) rfl rfl rfl rfl))) | (refine kN ?_; (first | (refine kCall ?_; (first | (refine kWFn 89 ?_; (refine s_callF (fun u H => OImg u (painted s) H) rfl (fun w hw => c_painted s _ w hok (hv.keep (hw.cells rfl))) rfl (fun u H hu => ?_); obtain ⟨d', rfl, hu⟩ := hu; have f1 := hu.form; obtain ⟨_, _, rfl⟩ := f1)) | (refine kWFn 113 ?_; (refine s_callF (fun u H => OImg u (copyRegion i (painted s) r) H) rfl (fun w hw => c_icopyRegion i (painted s) r _ _ _ w (riA hw) (riA hw) (hr.keep (hw.cells rfl)) hl) rfl (fun u H hu => ?_); obtain ⟨d', rfl, hu⟩ := hu; have f1 := hu.form; obtain ⟨_, _, rfl⟩ := f1)) | apply s_step)) | (refine kStore ?_; (first | refine s_store1 _ rfl rfl gpA rfl (by rfl) ?_ | refine s_storeS _ rfl rfl gpA rfl rfl (by rfl) ?_ | refine s_storeS _ rfl rfl gpA rfl (ones_img oiA) (by rfl) ?_)) | refine s_boxS rfl rfl (fun b hb => ?_) | refine s_allocS rfl (fun b hb => ?_) | refine s_box1 rfl rfl rfl (fun b hb => ?_) | refine s_alloc1 rfl rfl (fun b hb => ?_) | refine s_buildSlice0 rfl (fun b hb => ?_) | refine s_buildSlice rfl rfl rfl rfl rfl (fun b hb => ?_) | apply s_step)) | (refine kG ?_; (first | refine s_gyes rfl rfl rfl ?_ | refine s_gno rfl rfl rfl rfl rfl ?_ | ((first | refine s_split_d rfl rfl (fun h => ?_) (fun h => ?_) | refine s_split_n rfl rfl (fun h => ?_) (fun h => ?_)) <;> (try (first | contradiction | (exfalso; omega) | (exfalso; exact absurd hok (by assumption))))) | refine s_split_nb rfl rfl (fun h => ?_) (fun h => ?_) | refine s_split rfl rfl (fun h => ?_) (fun h => ?_))) | (refine kS ?_; (first | refine h_exec rfl ?_ | refine h_take_nil rfl rfl rfl ?_ | refine h_take_pick rfl rfl rfl ?_ | refine h_nil ?_ | refine h_alt ?_ ?_ | apply h_take)) | (refine kBack ?_; (first | refine h_back_last rfl ?_ | refine h_backN rfl subA ?_)) | refine l_then ?_ | (refine kC ?_; (first | (refine kReg 3 ?_; refine c_regionSN (SPlan.take 0 (SPlan.take 1 (SPlan.take 3 (SPlan.run 2 (SPlan.run 4 (SPlan.run 5 SPlan.done)))))) (some 5) rfl rfl (by decide +kernel) ?_) | (refine kReg 3 ?_; refine c_regionSN (SPlan.take 0 (SPlan.take 1 (SPlan.take 3 (SPlan.run 2 (SPlan.run 4 (SPlan.run 5 SPlan.done)))))) none rfl rfl (by decide +kernel) ?_) | refine c_seq ?_ | refine c_regionN rfl ?_ | refine c_ret ?_ | (refine kCond ?_; (first | refine c_cond_t rfl ?_ | refine c_cond_f rfl ?_ | ((first | refine c_cond_d rfl (fun h => ?_) (fun h => ?_) | refine c_cond_n rfl (fun h => ?_) (fun h => ?_)) <;> (try (first | contradiction | (exfalso; omega) | (exfalso; exact absurd hok (by assumption))))) | refine c_cond_nb rfl (fun h => ?_) (fun h => ?_) | refine c_cond rfl (fun h => ?_) (fun h => ?_))) | refine c_block ?_ | refine c_skip ?_ | refine c_exit ?_ | refine c_regionQN rfl rfl (by decide +kernel) ?_)) | apply s_stepQ | (refine kQG ?_; (first | refine s_gyesQ rfl rfl rfl ?_ | refine s_gnoQ rfl rfl rfl rfl rfl ?_ | ((first | refine s_splitQ_d rfl rfl (fun h => ?_) (fun h => ?_) | refine s_splitQ_n rfl rfl (fun h => ?_) (fun h => ?_)) <;> (try (first | contradiction | (exfalso; omega) | (exfalso; exact absurd hok (by assumption))))) | refine s_splitQ_nb rfl rfl (fun h => ?_) (fun h => ?_) | refine s_splitQ rfl rfl (fun h => ?_) (fun h => ?_))) | refine lQ_then ?_ | refine lQ_ends ?_ | (refine kE ?_; (first | refine e_then_r ?_ | refine e_block_r ?_ | refine e_then_n ?_ | refine e_then_x ?_ | refine e_block_n ?_ | refine e_block_x ?_ | refine e_block_y rfl ?_)) | refine l_ends ?_)
    all_goals (refine kE ?_; refine s_leaveSF rfl rfl rfl fwA (fun w hw => ?_))
    all_goals exact ⟨_, _, rfl, ⟨_, rfl, hu⟩, hw.toFresh (H := H) gpA⟩
  · have hp : paintInto i s r = i := by unfold paintInto; rw [if_neg hok]
    rw [hp]
    (first | apply SYields.mk | apply SYieldsF.mk | skip); refine s_enter Tryz.func45 rfl Tryz.ntmps45 rfl ?_
    repeat' (first | exact rfl | (apply kO; (first | exact ov_pure rfl | (apply kOBin; (first | exact aBin)) | (apply kOCall; (first | (apply kCallF; (first | exact (ov_call rfl (fun w hw => c_isceneOk _ _ w (hv.keep (hw.cells rfl)))))) | (apply kCallB; (first | exact aBlt | exact aLenR)))) | (apply kOLoad; (first | exact aLdF | exact aLdR)) | exact ov_fieldAddr rfl | (apply kOIdx; (first | exact aIdx)) | exact aRest | exact aNew | exact (ov_field1 (ft := 31) rfl rfl rfl rfl))) | (refine kN ?_; (first | (refine kCall ?_; (first | (refine kWFn 112 ?_; (refine s_callF (fun u H => OImg u i H) rfl (fun w hw => c_copyImage i _ w (riA hw) hl) rfl (fun u H hu => ?_); obtain ⟨d', rfl, hu⟩ := hu; have f1 := hu.form; obtain ⟨_, _, rfl⟩ := f1)) | apply s_step)) | (refine kStore ?_; (first | refine s_store1 _ rfl rfl gpA rfl (by rfl) ?_ | refine s_storeS _ rfl rfl gpA rfl rfl (by rfl) ?_ | refine s_storeS _ rfl rfl gpA rfl (ones_img oiA) (by rfl) ?_)) | refine s_boxS rfl rfl (fun b hb => ?_) | refine s_allocS rfl (fun b hb => ?_) | refine s_box1 rfl rfl rfl (fun b hb => ?_) | refine s_alloc1 rfl rfl (fun b hb => ?_) | refine s_buildSlice0 rfl (fun b hb => ?_) | refine s_buildSlice rfl rfl rfl rfl rfl (fun b hb => ?_) | apply s_step)) | (refine kG ?_; (first | refine s_gyes rfl rfl rfl ?_ | refine s_gno rfl rfl rfl rfl rfl ?_ | ((first | refine s_split_d rfl rfl (fun h => ?_) (fun h => ?_) | refine s_split_n rfl rfl (fun h => ?_) (fun h => ?_)) <;> (try (first | contradiction | (exfalso; omega) | (exfalso; exact absurd (by assumption) hok)))) | refine s_split_nb rfl rfl (fun h => ?_) (fun h => ?_) | refine s_split rfl rfl (fun h => ?_) (fun h => ?_))) | refine l_then ?_ | (refine kC ?_; (first | refine c_seq ?_ | refine c_regionN rfl ?_ | refine c_ret ?_ | (refine kCond ?_; (first | refine c_cond_t rfl ?_ | refine c_cond_f rfl ?_ | ((first | refine c_cond_d rfl (fun h => ?_) (fun h => ?_) | refine c_cond_n rfl (fun h => ?_) (fun h => ?_)) <;> (try (first | contradiction | (exfalso; omega) | (exfalso; exact absurd (by assumption) hok)))) | refine c_cond_nb rfl (fun h => ?_) (fun h => ?_) | refine c_cond rfl (fun h => ?_) (fun h => ?_))) | refine c_block ?_ | refine c_skip ?_ | refine c_exit ?_ | refine c_regionQN rfl rfl (by decide +kernel) ?_)) | apply s_stepQ | (refine kQG ?_; (first | refine s_gyesQ rfl rfl rfl ?_ | refine s_gnoQ rfl rfl rfl rfl rfl ?_ | ((first | refine s_splitQ_d rfl rfl (fun h => ?_) (fun h => ?_) | refine s_splitQ_n rfl rfl (fun h => ?_) (fun h => ?_)) <;> (try (first | contradiction | (exfalso; omega) | (exfalso; exact absurd (by assumption) hok)))) | refine s_splitQ_nb rfl rfl (fun h => ?_) (fun h => ?_) | refine s_splitQ rfl rfl (fun h => ?_) (fun h => ?_))) | refine lQ_then ?_ | refine lQ_ends ?_ | (refine kE ?_; (first | refine e_then_r ?_ | refine e_block_r ?_ | refine e_then_n ?_ | refine e_then_x ?_ | refine e_block_n ?_ | refine e_block_x ?_ | refine e_block_y rfl ?_)) | refine l_ends ?_)
    all_goals (refine kE ?_; refine s_leaveSF rfl rfl rfl fwA (fun w hw => ?_))
    all_goals exact ⟨_, _, rfl, ⟨_, rfl, hu⟩, hw.toFresh (H := H) gpA⟩
set_option maxHeartbeats 2000000 in
theorem c_spaintInto (i : DImg) (s : DScene) (r : List DRect) (di v vr : Value) (W : World) (hi : RInts W di i.data) (hv : RS eSurf W v s.ss) (hr : RRects W vr r) (hl : i.data.length ≤ 1000000000) :
    SYieldsF Tryz.prog 42 #[vImg i di, vScene s v, vReg vr] (fun u H => OImg u (paintInto i s r) H) W := by
  have hif := hi.form
  obtain ⟨_, _, rfl⟩ := hif
  have hrf := hr.form
  obtain ⟨_, _, rfl⟩ := hrf
  by_cases hok : s.ok
  · have hp : paintInto i s r = copyRegion i (painted s) r := by unfold paintInto; rw [if_pos hok]
    rw [hp]
    (first | apply SYields.mk | apply SYieldsF.mk | skip); refine s_enter Tryz.func42 rfl Tryz.ntmps42 rfl ?_
    repeat' (first | exact rfl | (apply kO; (first | exact ov_pure rfl | (apply kOBin; (first | exact aBin)) | (apply kOCall; (first | (apply kCallF; (first | exact (ov_call rfl (fun w hw => c_ssceneOk _ _ w (hv.keep (hw.cells rfl)))))) | (apply kCallB; (first | exact aBlt | exact aLenR)))) | (apply kOLoad; (first | exact aLdF | exact aLdR)) | exact ov_fieldAddr rfl | (apply kOIdx; (first | exact aIdx)) | exact aRest | exact aNew | exact (ov_field1 (ft := 31) rfl rfl rfl rfl))) | (refine kN ?_; (first | (refine kCall ?_; (first | (refine kWFn 75 ?_; (refine s_callF (fun u H => OImg u (painted s) H) rfl (fun w hw => c_l11Paint s _ w hok (hv.keep (hw.cells rfl))) rfl (fun u H hu => ?_); obtain ⟨d', rfl, hu⟩ := hu; have f1 := hu.form; obtain ⟨_, _, rfl⟩ := f1)) | (refine kWFn 110 ?_; (refine s_callF (fun u H => OImg u (copyRegion i (painted s) r) H) rfl (fun w hw => c_scopyRegion i (painted s) r _ _ _ w (riA hw) (riA hw) (hr.keep (hw.cells rfl)) hl) rfl (fun u H hu => ?_); obtain ⟨d', rfl, hu⟩ := hu; have f1 := hu.form; obtain ⟨_, _, rfl⟩ := f1)) | apply s_step)) | (refine kStore ?_; (first | refine s_store1 _ rfl rfl gpA rfl (by rfl) ?_ | refine s_storeS _ rfl rfl gpA rfl rfl (by rfl) ?_ | refine s_storeS _ rfl rfl gpA rfl (ones_img oiA) (by rfl) ?_)) | refine s_boxS rfl rfl (fun b hb => ?_) | refine s_allocS rfl (fun b hb => ?_) | refine s_box1 rfl rfl rfl (fun b hb => ?_) | refine s_alloc1 rfl rfl (fun b hb => ?_) | refine s_buildSlice0 rfl (fun b hb => ?_) | refine s_buildSlice rfl rfl rfl rfl rfl (fun b hb => ?_) | apply s_step)) | (refine kG ?_; (first | refine s_gyes rfl rfl rfl ?_ | refine s_gno rfl rfl rfl rfl rfl ?_ | ((first | refine s_split_d rfl rfl (fun h => ?_) (fun h => ?_) | refine s_split_n rfl rfl (fun h => ?_) (fun h => ?_)) <;> (try (first | contradiction | (exfalso; omega) | (exfalso; exact absurd hok (by assumption))))) | refine s_split_nb rfl rfl (fun h => ?_) (fun h => ?_) | refine s_split rfl rfl (fun h => ?_) (fun h => ?_))) | (refine kS ?_; (first | refine h_exec rfl ?_ | refine h_take_nil rfl rfl rfl ?_ | refine h_take_pick rfl rfl rfl ?_ | refine h_nil ?_ | refine h_alt ?_ ?_ | apply h_take)) | (refine kBack ?_; (first | refine h_back_last rfl ?_ | refine h_backN rfl subA ?_)) | refine l_then ?_ | (refine kC ?_; (first | (refine kReg 3 ?_; refine c_regionSN (SPlan.take 0 (SPlan.take 1 (SPlan.take 3 (SPlan.run 2 (SPlan.run 4 (SPlan.run 5 SPlan.done)))))) (some 5) rfl rfl (by decide +kernel) ?_) | (refine kReg 3 ?_; refine c_regionSN (SPlan.take 0 (SPlan.take 1 (SPlan.take 3 (SPlan.run 2 (SPlan.run 4 (SPlan.run 5 SPlan.done)))))) none rfl rfl (by decide +kernel) ?_) | refine c_seq ?_ | refine c_regionN rfl ?_ | refine c_ret ?_ | (refine kCond ?_; (first | refine c_cond_t rfl ?_ | refine c_cond_f rfl ?_ | ((first | refine c_cond_d rfl (fun h => ?_) (fun h => ?_) | refine c_cond_n rfl (fun h => ?_) (fun h => ?_)) <;> (try (first | contradiction | (exfalso; omega) | (exfalso; exact absurd hok (by assumption))))) | refine c_cond_nb rfl (fun h => ?_) (fun h => ?_) | refine c_cond rfl (fun h => ?_) (fun h => ?_))) | refine c_block ?_ | refine c_skip ?_ | refine c_exit ?_ | refine c_regionQN rfl rfl (by decide +kernel) ?_)) | apply s_stepQ | (refine kQG ?_; (first | refine s_gyesQ rfl rfl rfl ?_ | refine s_gnoQ rfl rfl rfl rfl rfl ?_ | ((first | refine s_splitQ_d rfl rfl (fun h => ?_) (fun h => ?_) | refine s_splitQ_n rfl rfl (fun h => ?_) (fun h => ?_)) <;> (try (first | contradiction | (exfalso; omega) | (exfalso; exact absurd hok (by assumption))))) | refine s_splitQ_nb rfl rfl (fun h => ?_) (fun h => ?_) | refine s_splitQ rfl rfl (fun h => ?_) (fun h => ?_))) | refine lQ_then ?_ | refine lQ_ends ?_ | (refine kE ?_; (first | refine e_then_r ?_ | refine e_block_r ?_ | refine e_then_n ?_ | refine e_then_x ?_ | refine e_block_n ?_ | refine e_block_x ?_ | refine e_block_y rfl ?_)) | refine l_ends ?_)
    all_goals (refine kE ?_; refine s_leaveSF rfl rfl rfl fwA (fun w hw => ?_))
    all_goals exact ⟨_, _, rfl, ⟨_, rfl, hu⟩, hw.toFresh (H := H) gpA⟩
  · have hp : paintInto i s r = i := by unfold paintInto; rw [if_neg hok]
    rw [hp]
    (first | apply SYields.mk | apply SYieldsF.mk | skip); refine s_enter Tryz.func42 rfl Tryz.ntmps42 rfl ?_
    repeat' (first | exact rfl | (apply kO; (first | exact ov_pure rfl | (apply kOBin; (first | exact aBin)) | (apply kOCall; (first | (apply kCallF; (first | exact (ov_call rfl (fun w hw => c_ssceneOk _ _ w (hv.keep (hw.cells rfl)))))) | (apply kCallB; (first | exact aBlt | exact aLenR)))) | (apply kOLoad; (first | exact aLdF | exact aLdR)) | exact ov_fieldAddr rfl | (apply kOIdx; (first | exact aIdx)) | exact aRest | exact aNew | exact (ov_field1 (ft := 31) rfl rfl rfl rfl))) | (refine kN ?_; (first | (refine kCall ?_; (first | (refine kWFn 109 ?_; (refine s_callF (fun u H => OImg u i H) rfl (fun w hw => c_l05Copy i _ w (riA hw) hl) rfl (fun u H hu => ?_); obtain ⟨d', rfl, hu⟩ := hu; have f1 := hu.form; obtain ⟨_, _, rfl⟩ := f1)) | apply s_step)) | (refine kStore ?_; (first | refine s_store1 _ rfl rfl gpA rfl (by rfl) ?_ | refine s_storeS _ rfl rfl gpA rfl rfl (by rfl) ?_ | refine s_storeS _ rfl rfl gpA rfl (ones_img oiA) (by rfl) ?_)) | refine s_boxS rfl rfl (fun b hb => ?_) | refine s_allocS rfl (fun b hb => ?_) | refine s_box1 rfl rfl rfl (fun b hb => ?_) | refine s_alloc1 rfl rfl (fun b hb => ?_) | refine s_buildSlice0 rfl (fun b hb => ?_) | refine s_buildSlice rfl rfl rfl rfl rfl (fun b hb => ?_) | apply s_step)) | (refine kG ?_; (first | refine s_gyes rfl rfl rfl ?_ | refine s_gno rfl rfl rfl rfl rfl ?_ | ((first | refine s_split_d rfl rfl (fun h => ?_) (fun h => ?_) | refine s_split_n rfl rfl (fun h => ?_) (fun h => ?_)) <;> (try (first | contradiction | (exfalso; omega) | (exfalso; exact absurd (by assumption) hok)))) | refine s_split_nb rfl rfl (fun h => ?_) (fun h => ?_) | refine s_split rfl rfl (fun h => ?_) (fun h => ?_))) | refine l_then ?_ | (refine kC ?_; (first | refine c_seq ?_ | refine c_regionN rfl ?_ | refine c_ret ?_ | (refine kCond ?_; (first | refine c_cond_t rfl ?_ | refine c_cond_f rfl ?_ | ((first | refine c_cond_d rfl (fun h => ?_) (fun h => ?_) | refine c_cond_n rfl (fun h => ?_) (fun h => ?_)) <;> (try (first | contradiction | (exfalso; omega) | (exfalso; exact absurd (by assumption) hok)))) | refine c_cond_nb rfl (fun h => ?_) (fun h => ?_) | refine c_cond rfl (fun h => ?_) (fun h => ?_))) | refine c_block ?_ | refine c_skip ?_ | refine c_exit ?_ | refine c_regionQN rfl rfl (by decide +kernel) ?_)) | apply s_stepQ | (refine kQG ?_; (first | refine s_gyesQ rfl rfl rfl ?_ | refine s_gnoQ rfl rfl rfl rfl rfl ?_ | ((first | refine s_splitQ_d rfl rfl (fun h => ?_) (fun h => ?_) | refine s_splitQ_n rfl rfl (fun h => ?_) (fun h => ?_)) <;> (try (first | contradiction | (exfalso; omega) | (exfalso; exact absurd (by assumption) hok)))) | refine s_splitQ_nb rfl rfl (fun h => ?_) (fun h => ?_) | refine s_splitQ rfl rfl (fun h => ?_) (fun h => ?_))) | refine lQ_then ?_ | refine lQ_ends ?_ | (refine kE ?_; (first | refine e_then_r ?_ | refine e_block_r ?_ | refine e_then_n ?_ | refine e_then_x ?_ | refine e_block_n ?_ | refine e_block_x ?_ | refine e_block_y rfl ?_)) | refine l_ends ?_)
    all_goals (refine kE ?_; refine s_leaveSF rfl rfl rfl fwA (fun w hw => ?_))
    all_goals exact ⟨_, _, rfl, ⟨_, rfl, hu⟩, hw.toFresh (H := H) gpA⟩
end Go.Proofs.YtfmjeakcfmmkfaaGreat
/-
  Joining the ways through a region: what comes after it is walked once. Pieces picked out of a heap in any order.
-/
set_option linter.unusedVariables false
namespace Go.Proofs.YtfmjeakcfmmkfaaGreat
open Go Sx
theorem papart : ∀ {L : SHeap} {i j : Nat} {A B : SPiece} {k : Nat} {o p : Obj}, (L.flatten.map (·.1)).Nodup → getL L i = some A → getL L j = some B → i ≠ j → (k, o) ∈ A → (k, p) ∈ B → False
  | [], i, j, A, B, k, o, p, hn, hi, hj, hij, ha, hb => by simp [getL] at hi
  | X :: L, 0, 0, A, B, k, o, p, hn, hi, hj, hij, ha, hb => hij rfl
  | X :: L, 0, j + 1, A, B, k, o, p, hn, hi, hj, hij, ha, hb => by
    simp only [getL, Option.some.injEq] at hi
    subst hi
    rw [List.flatten_cons, List.map_append, List.nodup_append] at hn
    exact hn.2.2 k (List.mem_map.2 ⟨(k, o), ha, rfl⟩) k (List.mem_map.2 ⟨(k, p), getL_flat (show getL L j = some B from hj) hb, rfl⟩) rfl
  | X :: L, i + 1, 0, A, B, k, o, p, hn, hi, hj, hij, ha, hb => by
    simp only [getL, Option.some.injEq] at hj
    subst hj
    rw [List.flatten_cons, List.map_append, List.nodup_append] at hn
    exact hn.2.2 k (List.mem_map.2 ⟨(k, p), hb, rfl⟩) k (List.mem_map.2 ⟨(k, o), getL_flat (show getL L i = some A from hi) ha, rfl⟩) rfl
  | X :: L, i + 1, j + 1, A, B, k, o, p, hn, hi, hj, hij, ha, hb => by
    rw [List.flatten_cons, List.map_append, List.nodup_append] at hn
    exact papart (L := L) hn.2.1 (show getL L i = some A from hi) (show getL L j = some B from hj) (fun e => hij (by rw [e])) ha hb
/-- these pieces, in this order -/
inductive Picks (L : SHeap) : List Nat → SHeap → Prop
  | nil : Picks L [] []
  | cons {i : Nat} {A : SPiece} {is : List Nat} {L' : SHeap} (hi : getL L i = some A) (h : Picks L is L') : Picks L (i :: is) (A :: L')
theorem Picks.mem {L L' : SHeap} {is : List Nat} (h : Picks L is L') {p : Nat × Obj} (hp : p ∈ L'.flatten) : ∃ j B, j ∈ is ∧ getL L j = some B ∧ p ∈ B := by
  induction h with
  | nil => simp at hp
  | @cons i A is L' hi h ih =>
    rw [List.flatten_cons, List.mem_append] at hp
    rcases hp with hp | hp
    · exact ⟨i, A, List.mem_cons_self .., hi, hp⟩
    · obtain ⟨j, B, h1, h2, h3⟩ := ih hp
      exact ⟨j, B, List.mem_cons_of_mem _ h1, h2, h3⟩
def nodupB : List Nat → Bool
  | [] => true
  | i :: is => !is.contains i && nodupB is
theorem _root_.Sx.SSt.picks {lo : SMut} {s w : World} {L L' : SHeap} {is : List Nat} (h : SSt lo s L w) (hp : Picks L is L') (hd : nodupB is = true) : SSt lo s L' w := by
  refine ⟨h.kept, fun b o hm => ?_, ?_⟩
  · obtain ⟨j, B, h1, h2, h3⟩ := hp.mem hm
    exact h.blocks b o (getL_flat h2 h3)
  · have hn := h.nodup
    clear h
    induction hp with
    | nil => exact List.nodup_nil
    | @cons i A is L' hi hp ih =>
      simp only [nodupB, Bool.and_eq_true, Bool.not_eq_true'] at hd
      rw [List.flatten_cons, List.map_append, List.nodup_append]
      refine ⟨((List.sublist_flatten_of_mem (getL_mem hi)).map _).nodup hn, ih hd.2, ?_⟩
      intro k hk k' hk' e
      subst e
      obtain ⟨⟨k1, o⟩, h1, rfl⟩ := List.mem_map.1 hk
      obtain ⟨⟨k2, p⟩, h2, h3⟩ := List.mem_map.1 hk'
      obtain ⟨j, B, h4, h5, h6⟩ := hp.mem h2
      dsimp only at h3
      subst h3
      refine papart hn hi h5 (fun e => ?_) h1 h6
      subst e
      have := hd.1
      rw [List.contains_eq_mem, decide_eq_false_iff_not] at this
      exact this h4
def lrev : SHeap → SHeap → SHeap
  | [], acc => acc
  | p :: r, acc => lrev r (p :: acc)
def lapp' : SHeap → SHeap → Option SHeap
  | [], acc => some acc
  | p :: r, acc => lapp' r (p :: acc)
def lapp (A B : SHeap) : Option SHeap := lapp' (lrev A []) B
section
variable {P : Program} {n : Nat} {lo : SMut} {s : World} {Q : Exit → Act → World → Prop} {E : SEnv} {L : SHeap}
theorem kSeqR (id : Nat) {ops : Array Oper} {dr : Bool} {y : Code} (h : WPC P n lo s (.seq (.region id ops dr) y) Q E L) : WPC P n lo s (.seq (.region id ops dr) y) Q E L := h
/-- whatever way is taken through the region, one of these states is reached: V j are the slots that it leaves, A j the new pieces, ks the old ones that are kept -/
theorem c_join {ι : Type} (ks : List Bool) {id : Nat} {ops : Array Oper} {dr : Bool} {y : Code} {E0 : SEnv} {L0 : SHeap} (I : ι → Prop) (V : ι → SEnv) (A : ι → SHeap) {F : ι → SEnv} {H : ι → SHeap}
    (hk : selO ks L = some L0) (hE0 : sloopE (.region id ops dr) E = some E0) (hF : ∀ i, sapp (V i) E0 = some (F i)) (hH : ∀ i, lapp (A i) L0 = some (H i))
    (hx : WPC P n lo s (.region id ops dr) (Exit.then (fun a w => ∃ j, I j ∧ SSat n a (F j) ∧ SSt lo s (H j) w) Q) E L)
    (hy : ∀ j, I j → WPC P n lo s y Q (F j) (H j)) : WPC P n lo s (.seq (.region id ops dr) y) Q E L := by
  unfold WPC at *
  intro a w ha hw
  refine wp_seq (wp_mono (hx a w ha hw) ?_)
  intro e a' w' h
  cases e with
  | normal => obtain ⟨j, hj, h1, h2⟩ := h; exact hy j hj a' w' h1 h2
  | _ => exact h
theorem e_join {ι : Type} {I : ι → Prop} {F : ι → SEnv} {H : ι → SHeap} (j : ι) (hI : I j) (hE : SSub E (F j)) (hL : ∀ w, SSt lo s L w → SSt lo s (H j) w) :
    SEnds n lo s (Exit.then (fun a w => ∃ j, I j ∧ SSat n a (F j) ∧ SSt lo s (H j) w) Q) .normal E L := by
  unfold SEnds
  exact fun a w ha hw => ⟨j, hI, ha.sub hE, hL w hw⟩
theorem e_joinP {ι : Type} {I : ι → Prop} {F : ι → SEnv} {H : ι → SHeap} {is : List Nat} (j : ι) (hI : I j) (hE : SSub E (F j)) (hp : Picks L is (H j)) (hd : nodupB is = true) :
    SEnds n lo s (Exit.then (fun a w => ∃ j, I j ∧ SSat n a (F j) ∧ SSt lo s (H j) w) Q) .normal E L :=
  e_join j hI hE (fun w hw => hw.picks hp hd)
end
end Go.Proofs.YtfmjeakcfmmkfaaGreat
