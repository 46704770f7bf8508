/-
  Contract: the canonical form of a grid, by the reference.
-/
import Derived.Test.YtbpflnececfkmaaL9
import Derived.Test.YtbpflnececfkmaaL11
import Derived.Test.YtbpflnececfkmaaKG
set_option linter.unusedVariables false
namespace Go.Proofs.Ytbpflnececfkmaa
open Go Sx
attribute [local irreducible] Exit.then Exit.inBlock bodyPost Sx.bits canonR rowR gvals sameRow OVs
theorem gv_at3 (g : Grid) {y x z : Nat} (hy : y < 16) (hx : x + z < 16) : (gvals g).getD ((y : Int) * 16 + (x : Int) + (z : Int)).toNat false = g y (x + z) := by
  rw [show ((y : Int) * 16 + (x : Int) + (z : Int)).toNat = y * 16 + (x + z) by omega]; exact gvals_at g hy hx
set_option maxRecDepth 1000000 in
set_option maxHeartbeats 4000000 in
theorem c_l03Canon (v : Value) (g : Grid) (W : World) (hv : RBools W v (gvals g)) : SYieldsF Try.prog 194 #[v] (fun u H => OReg u (canon g) H) W := by
  have hgl := gvals_length g
  have hv' := hv.form
  obtain ⟨_, _, rfl⟩ := hv'
  (first | apply SYields.mk | apply SYieldsF.mk | skip); refine s_enter Try.func194 rfl Try.ntmps194 rfl ?_
  repeat' (first | exact rfl | (apply kO; (first | exact ov_pure rfl | (apply kOBin; (first | exact aBin)) | (apply kOCall; (first | (apply kCallF; (first | exact (ov_call rfl (fun w hw => c_l03Row _ g y.1 (y.1 + e) w (by omega) (by omega) (RRow.keep hv (hw.cells rfl)))))) | (apply kCallB; (first | exact aBlt | exact aLenR)))) | (apply kOLoad; (first | exact (ov_ldR0 (fun w hw => RRow.keep hv (hw.cells rfl)) rfl rfl (by rw [hgl]; omega) rfl) | exact aLdF | exact aLdR)) | exact ov_fieldAddr rfl | (apply kOIdx; (first | exact (ov_idxR (fun w hw => RRow.keep hv (hw.cells rfl)) rfl rfl (by rw [hgl]; omega)) | exact aIdx)) | exact aRest | exact aNew | exact (ov_field1 (ft := 37) rfl rfl rfl rfl))) | (refine kN ?_; (first | (refine kCall ?_; (first | (refine kWApp ?_; (refine s_appendVs _ _ (c := cRect) (kk := 4) (a := ⟨x.1, y.1, (z : Int), (e : Int)⟩) rfl rfl (by assumption) gpA gpA rfl rfl (by rw [scells_eq]; rfl) (by decide) (by omega) (by decide) rfl (fun v' H' hv' => ?_); have f1 := hv'.form; obtain ⟨ua, uc, rfl⟩ := f1)) | apply s_step)) | (refine kStore ?_; (first | (refine s_storeS _ rfl rfl gpA rfl (ones_cons (OVs.one (by assumption)) rfl) (by rfl) ?_) | refine s_store1 _ rfl rfl gpA rfl (by rfl) ?_ | refine s_storeS _ rfl rfl gpA rfl rfl (by rfl) ?_ | refine s_storeS _ rfl rfl gpA rfl (ones_img oiA) (by rfl) ?_)) | refine s_boxS rfl rfl (fun b hb => ?_) | refine s_allocS rfl (fun b hb => ?_) | refine s_box1 rfl rfl rfl (fun b hb => ?_) | refine s_alloc1 rfl rfl (fun b hb => ?_) | refine s_buildSlice0 rfl (fun b hb => ?_) | refine s_buildSlice rfl rfl rfl rfl rfl (fun b hb => ?_) | apply s_step)) | (refine kG ?_; (first | refine s_gyes rfl rfl rfl ?_ | refine s_gno rfl rfl rfl rfl rfl ?_ | ((first | refine s_split_d rfl rfl (fun h => ?_) (fun h => ?_) | refine s_split_n rfl rfl (fun h => ?_) (fun h => ?_)) <;> (try (first | (exfalso; omega)))) | refine s_split_nb rfl rfl (fun h => ?_) (fun h => ?_) | refine s_split rfl rfl (fun h => ?_) (fun h => ?_))) | refine l_then ?_ | (refine kC ?_; (first | (refine kLoop 3 ?_; refine c_loopV (ι := Nat × List DRect × Value × SPiece) (fun y => y.1 ≤ 16 ∧ ORects y.2.2.1 y.2.1 y.2.2.2 ∧ y.2.1 ++ canonR g y.1 = canon g ∧ y.2.1.length ≤ 8 * y.1) (fun y => [(4, .int .i64 (y.1 : Int))]) (fun y => [[(_, srow [y.2.2.1] 34)], y.2.2.2, _]) (fun y => 16 - y.1) (0, [], _, []) ⟨by dsimp only; omega, OVs.nil, (show [] ++ canonR g 0 = canonR g 0 from List.nil_append _), by dsimp only; simp⟩ rfl (fun _ => rfl) ⟨rfl, trivial⟩ (fun w hw => hw.nil1) (fun y hy => ?_); obtain ⟨hy1, hy2, hy3, hy4⟩ := hy) | (refine kLoop 5 ?_; refine c_loopV (ι := Nat) (fun e => (1 ≤ e ∧ y.1 + e ≤ 16) ∧ ∀ z, y.1 < z → z < y.1 + e → z < 16 ∧ sameRow g y.1 z = true) (fun e => [(5, .int .i64 (e : Int))]) (fun e => [_, _, _]) (fun e => 16 - e) 1 ⟨by omega, fun z a c => by omega⟩ rfl (fun _ => rfl) ⟨rfl, trivial⟩ (fun w hw => hw) (fun e he => ?_); obtain ⟨he1, he2⟩ := he) | (refine kLoop 8 ?_; refine c_loopV (ι := Nat × List DRect × Value × SPiece) (fun x => x.1 ≤ 17 ∧ ORects x.2.2.1 x.2.1 x.2.2.2 ∧ x.2.1 ++ (rowR (g y.1) y.1 (e : Int) x.1 ++ canonR g (y.1 + e)) = canon g ∧ x.2.1.length ≤ 8 * y.1 + x.1 / 2) (fun x => [(6, .int .i64 (x.1 : Int))]) (fun x => [[(_, srow [x.2.2.1] 34)], x.2.2.2, _]) (fun x => 17 - x.1) (0, y.2.1, y.2.2.1, y.2.2.2) ⟨by dsimp only; omega, hy2, by dsimp only; rw [← hy3, canonR_step (g := g) (y := y.1) (by omega), hgt_of (e := y.1 + e) (by omega) he2 (fun hh => by first | omega | exact absurd hh.2 (by assumption) | exact absurd hh.2 (Bool.eq_false_iff.1 (by assumption))), show y.1 + e - y.1 = e by omega], by dsimp only; omega⟩ rfl (fun _ => rfl) ⟨rfl, trivial⟩ (fun w hw => hw) (fun x hx => ?_); obtain ⟨hx1, hx2, hx3, hx4⟩ := hx) | (refine kLoop 10 ?_; refine c_loopV (ι := Nat) (fun z => x.1 + z ≤ 16 ∧ ∀ i, x.1 ≤ i → i < x.1 + z → i < 16 ∧ g y.1 i = true) (fun z => [(7, .int .i64 (z : Int))]) (fun z => [_, _, _]) (fun z => 16 - z) 0 ⟨by omega, fun i a c => by omega⟩ rfl (fun _ => rfl) ⟨rfl, trivial⟩ (fun w hw => hw) (fun z hz => ?_); obtain ⟨hz1, hz2⟩ := hz) | refine c_seq ?_ | refine c_region ?_ | refine c_ret ?_ | (refine kCond ?_; (first | refine c_cond_t rfl ?_ | refine c_cond_f rfl ?_ | ((first | refine c_cond_d rfl (fun h => ?_) (fun h => ?_) | refine c_cond_n rfl (fun h => ?_) (fun h => ?_)) <;> (try (first | (exfalso; omega)))) | refine c_cond_nb rfl (fun h => ?_) (fun h => ?_) | refine c_cond rfl (fun h => ?_) (fun h => ?_))) | refine c_block ?_ | refine c_skip ?_ | refine c_exit ?_ | refine c_regionQ rfl (by decide +kernel) ?_)) | apply s_stepQ | (refine kQG ?_; (first | refine s_gyesQ rfl rfl rfl ?_ | refine s_gnoQ rfl rfl rfl rfl rfl ?_ | ((first | refine s_splitQ_d rfl rfl (fun h => ?_) (fun h => ?_) | refine s_splitQ_n rfl rfl (fun h => ?_) (fun h => ?_)) <;> (try (first | (exfalso; omega)))) | refine s_splitQ_nb rfl rfl (fun h => ?_) (fun h => ?_) | refine s_splitQ rfl rfl (fun h => ?_) (fun h => ?_))) | refine lQ_then ?_ | refine lQ_ends ?_ | (refine kE ?_; (first | refine e_then_r ?_ | refine e_block_r ?_ | refine e_then_n ?_ | refine e_then_x ?_ | refine e_block_n ?_ | refine e_block_x ?_ | refine e_block_y rfl ?_)) | refine l_ends ?_)
  · refine e_round (e + 1) ⟨by omega, fun z a c => ?_⟩ ⟨slook_to rfl (vint_to (by push_cast; rfl)), (by repeat' first | exact trivial | refine ⟨rfl, ?_⟩)⟩ (fun w hw => hw) (by omega)
    by_cases e0 : z = y.1 + e
    · subst e0; exact ⟨by omega, by assumption⟩
    · exact he2 z a (by omega)
  · refine e_round (z + 1) ⟨by omega, fun i a c => ?_⟩ ⟨slook_to rfl (vint_to (by push_cast; rfl)), (by repeat' first | exact trivial | refine ⟨rfl, ?_⟩)⟩ (fun w hw => hw) (by omega)
    by_cases e0 : i = x.1 + z
    · subst e0; exact ⟨by omega, by rw [← gv_at3 g (y := y.1) (x := x.1) (z := z) (by omega) (by omega)]; assumption⟩
    · exact hz2 i a (by omega)
  · have hxz : 0 < z := by omega
    have hn : ¬ (x.1 + z < 16 ∧ g y.1 (x.1 + z) = true) := fun hh => by have hf : g y.1 (x.1 + z) = false := (by rw [← gv_at3 g (y := y.1) (x := x.1) (z := z) (by omega) (by omega)]; assumption); rw [hf] at hh; exact absurd hh.2 Bool.false_ne_true
    refine e_round (x.1 + z + 1, _, _, H') ⟨by dsimp only; omega, hv', ?_, by dsimp only; rw [List.length_append, List.length_singleton]; omega⟩ ⟨slook_to rfl (vint_to (by push_cast; rfl)), (by repeat' first | exact trivial | refine ⟨rfl, ?_⟩)⟩ (fun w hw => hw.sub (selO_sub [false, true, true, true] _ _ rfl)) (by dsimp only; omega)
    dsimp only
    rw [← hx3, rowR_app (f := g y.1) (y := y.1) (h := (e : Int)) (x := x.1) (z := x.1 + z) (by omega) (by omega) hz2 hn, show (((x.1 + z : Nat) : Int) - (x.1 : Int)) = (z : Int) by omega, List.append_assoc, List.append_assoc]
  · have hxz : z = 0 := by omega
    subst hxz
    have hn : ¬ (x.1 < 16 ∧ g y.1 x.1 = true) := fun hh => by have hf : g y.1 (x.1 + 0) = false := (by rw [← gv_at3 g (y := y.1) (x := x.1) (z := 0) (by omega) (by omega)]; assumption); rw [Nat.add_zero] at hf; rw [hf] at hh; exact absurd hh.2 Bool.false_ne_true
    refine e_round (x.1 + 1, x.2.1, x.2.2.1, x.2.2.2) ⟨by dsimp only; omega, hx2, ?_, by dsimp only; omega⟩ ⟨slook_to rfl (vint_to (by push_cast; omega)), (by repeat' first | exact trivial | refine ⟨rfl, ?_⟩)⟩ (fun w hw => hw) (by dsimp only; omega)
    dsimp only
    rw [← rowR_skip (f := g y.1) (y := y.1) (h := (e : Int)) (by omega) hn]; exact hx3
  · have hxz : 0 < z := by omega
    have hn : ¬ (x.1 + z < 16 ∧ g y.1 (x.1 + z) = true) := fun hh => by omega
    refine e_round (x.1 + z + 1, _, _, H') ⟨by dsimp only; omega, hv', ?_, by dsimp only; rw [List.length_append, List.length_singleton]; omega⟩ ⟨slook_to rfl (vint_to (by push_cast; rfl)), (by repeat' first | exact trivial | refine ⟨rfl, ?_⟩)⟩ (fun w hw => hw.sub (selO_sub [false, true, true, true] _ _ rfl)) (by dsimp only; omega)
    dsimp only
    rw [← hx3, rowR_app (f := g y.1) (y := y.1) (h := (e : Int)) (x := x.1) (z := x.1 + z) (by omega) (by omega) hz2 hn, show (((x.1 + z : Nat) : Int) - (x.1 : Int)) = (z : Int) by omega, List.append_assoc, List.append_assoc]
  · rw [rowR_done (by omega), List.nil_append] at hx3
    exact e_round (y.1 + e, x.2.1, x.2.2.1, x.2.2.2) ⟨by dsimp only; omega, hx2, hx3, by dsimp only; omega⟩ ⟨slook_to rfl (vint_to (by push_cast; rfl)), (by repeat' first | exact trivial | refine ⟨rfl, ?_⟩)⟩ (fun w hw => hw) (by dsimp only; omega)
  · refine e_round (z + 1) ⟨by omega, fun i a c => ?_⟩ ⟨slook_to rfl (vint_to (by push_cast; rfl)), (by repeat' first | exact trivial | refine ⟨rfl, ?_⟩)⟩ (fun w hw => hw) (by omega)
    by_cases e0 : i = x.1 + z
    · subst e0; exact ⟨by omega, by rw [← gv_at3 g (y := y.1) (x := x.1) (z := z) (by omega) (by omega)]; assumption⟩
    · exact hz2 i a (by omega)
  · have hxz : 0 < z := by omega
    have hn : ¬ (x.1 + z < 16 ∧ g y.1 (x.1 + z) = true) := fun hh => by have hf : g y.1 (x.1 + z) = false := (by rw [← gv_at3 g (y := y.1) (x := x.1) (z := z) (by omega) (by omega)]; assumption); rw [hf] at hh; exact absurd hh.2 Bool.false_ne_true
    refine e_round (x.1 + z + 1, _, _, H') ⟨by dsimp only; omega, hv', ?_, by dsimp only; rw [List.length_append, List.length_singleton]; omega⟩ ⟨slook_to rfl (vint_to (by push_cast; rfl)), (by repeat' first | exact trivial | refine ⟨rfl, ?_⟩)⟩ (fun w hw => hw.sub (selO_sub [false, true, true, true] _ _ rfl)) (by dsimp only; omega)
    dsimp only
    rw [← hx3, rowR_app (f := g y.1) (y := y.1) (h := (e : Int)) (x := x.1) (z := x.1 + z) (by omega) (by omega) hz2 hn, show (((x.1 + z : Nat) : Int) - (x.1 : Int)) = (z : Int) by omega, List.append_assoc, List.append_assoc]
  · have hxz : z = 0 := by omega
    subst hxz
    have hn : ¬ (x.1 < 16 ∧ g y.1 x.1 = true) := fun hh => by have hf : g y.1 (x.1 + 0) = false := (by rw [← gv_at3 g (y := y.1) (x := x.1) (z := 0) (by omega) (by omega)]; assumption); rw [Nat.add_zero] at hf; rw [hf] at hh; exact absurd hh.2 Bool.false_ne_true
    refine e_round (x.1 + 1, x.2.1, x.2.2.1, x.2.2.2) ⟨by dsimp only; omega, hx2, ?_, by dsimp only; omega⟩ ⟨slook_to rfl (vint_to (by push_cast; omega)), (by repeat' first | exact trivial | refine ⟨rfl, ?_⟩)⟩ (fun w hw => hw) (by dsimp only; omega)
    dsimp only
    rw [← rowR_skip (f := g y.1) (y := y.1) (h := (e : Int)) (by omega) hn]; exact hx3
  · have hxz : 0 < z := by omega
    have hn : ¬ (x.1 + z < 16 ∧ g y.1 (x.1 + z) = true) := fun hh => by omega
    refine e_round (x.1 + z + 1, _, _, H') ⟨by dsimp only; omega, hv', ?_, by dsimp only; rw [List.length_append, List.length_singleton]; omega⟩ ⟨slook_to rfl (vint_to (by push_cast; rfl)), (by repeat' first | exact trivial | refine ⟨rfl, ?_⟩)⟩ (fun w hw => hw.sub (selO_sub [false, true, true, true] _ _ rfl)) (by dsimp only; omega)
    dsimp only
    rw [← hx3, rowR_app (f := g y.1) (y := y.1) (h := (e : Int)) (x := x.1) (z := x.1 + z) (by omega) (by omega) hz2 hn, show (((x.1 + z : Nat) : Int) - (x.1 : Int)) = (z : Int) by omega, List.append_assoc, List.append_assoc]
  · rw [rowR_done (by omega), List.nil_append] at hx3
    exact e_round (y.1 + e, x.2.1, x.2.2.1, x.2.2.2) ⟨by dsimp only; omega, hx2, hx3, by dsimp only; omega⟩ ⟨slook_to rfl (vint_to (by push_cast; rfl)), (by repeat' first | exact trivial | refine ⟨rfl, ?_⟩)⟩ (fun w hw => hw) (by dsimp only; omega)
  · have e0 : y.1 = 16 := by omega
    rw [e0, canonR_done (by omega), List.append_nil] at hy3
    rw [hy3] at hy2
    exact s_leaveSF rfl rfl rfl fwA (fun w hw => ⟨_, _, rfl, ⟨_, rfl, hy2⟩, hw.toFresh (H := y.2.2.2) gpA⟩)
end Go.Proofs.Ytbpflnececfkmaa
