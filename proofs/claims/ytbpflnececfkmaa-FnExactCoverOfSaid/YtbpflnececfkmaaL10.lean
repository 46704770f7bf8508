/-
  Contracts: the reference's grids.
-/
import Derived.Test.YtbpflnececfkmaaKR
import Derived.Test.YtbpflnececfkmaaK11
import Derived.Test.YtbpflnececfkmaaKF
import Derived.Test.YtbpflnececfkmaaM13
import Derived.Test.YtbpflnececfkmaaL3
set_option linter.unusedVariables false
namespace Go.Proofs.Ytbpflnececfkmaa
open Go Sx
attribute [local irreducible] Exit.then Exit.inBlock bodyPost
theorem putG_put (g : Grid) (y x : Nat) : Grid.put g y x true = putG g y x := rfl
theorem boxG_put {r : DRect} {old : Grid} {j i : Nat} (h0 : 0 ≤ r.X ∧ 0 ≤ r.Y) (hx : r.X + r.W ≤ 16) (hy : r.Y + r.H ≤ 16) (hi : (i : Int) < r.W) (hj : (j : Int) < r.H) :
    (gvals (boxG r old j i)).set ((r.Y + (j : Int)) * 16 + (r.X + (i : Int))).toNat true = gvals (boxG r old j (i + 1)) := by
  rw [show ((r.Y + (j : Int)) * 16 + (r.X + (i : Int))).toNat = (r.Y + j).toNat * 16 + (r.X + i).toNat by omega, gvals_set _ (by omega) (by omega), putG_put, gvals_congr (boxG_next h0 hi)]
set_option maxHeartbeats 2000000 in
set_option maxRecDepth 1000000 in
theorem c_l03Grid (v : Value) (l : List DRect) (W : World) (hv : RRects W v l) : SYieldsF Try.prog 195 #[v] (fun u H => OBools u (gvals (points l)) H) W := by
  have hv' := hv.form
  obtain ⟨_, _, rfl⟩ := hv'
  have hll := hv.len
  have hin := fun k => inter_screen_in (l.getD k DRect.zero)
  have hgl := fun g => gvals_length g
  have hzero : (List.replicate 256 false) = gvals (points (l.take 0)) := by
    exact (List.eq_replicate_iff.2 ⟨by simp [gvals], fun c hc => by obtain ⟨q, _, rfl⟩ := List.mem_map.1 hc; rfl⟩).symm
  (first | apply SYields.mk | apply SYieldsF.mk | skip); refine s_enter Try.func195 rfl Try.ntmps195 rfl ?_
  repeat' (first | exact rfl | (apply kO; (first | exact ov_pure rfl | (apply kOBin; (first | exact aBin | exact (ov_add rfl rfl (by have := hin k.1; omega)) | exact (ov_mul rfl rfl (by have := hin k.1; omega)))) | (apply kOCall; (first | (apply kCallF; (first | exact (ov_call rfl (fun w hw => c_sintersect (l.getD k.1 DRect.zero) DRect.screen w)))) | (apply kCallB; (first | exact aBlt | exact aLenR)))) | (apply kOLoad; (first | exact (ov_ldR (fun w hw => RRow.keep hv (hw.cells rfl)) rfl rfl (by omega) rfl) | exact aLdF | exact aLdR)) | exact ov_fieldAddr rfl | (apply kOIdx; (first | exact (ov_idxR (fun w hw => OBools.rd (by assumption) (hfA hw)) rfl rfl (by rw [hgl]; have := hin k.1; omega)) | exact aIdx)) | exact aRest | exact aNew | exact (ov_field1 (ft := 37) rfl rfl rfl rfl))) | (refine kN ?_; (first | (refine kStore ?_; (first | (refine s_setB _ rfl rfl (by assumption) gpA (by rw [hgl]; have := hin k.1; omega) (fun H' hu => ?_)) | refine s_store1 _ rfl rfl gpA rfl (by rfl) ?_ | refine s_storeS _ rfl rfl gpA rfl rfl (by rfl) ?_ | refine s_storeS _ rfl rfl gpA rfl (ones_img oiA) (by rfl) ?_)) | refine s_boxS rfl rfl (fun b hb => ?_) | refine s_allocS rfl (fun b hb => ?_) | refine s_box1 rfl rfl rfl (fun b hb => ?_) | refine s_alloc1 rfl rfl (fun b hb => ?_) | (refine kWMake ?_; (refine s_make1 rfl rfl rfl ⟨by omega, by omega, by omega⟩ (by omega) rfl (fun b hb => ?_))) | refine s_buildSlice0 rfl (fun b hb => ?_) | refine s_buildSlice rfl rfl rfl rfl rfl (fun b hb => ?_) | apply s_step)) | (refine kG ?_; (first | refine s_gyes rfl rfl rfl ?_ | refine s_gno rfl rfl rfl rfl rfl ?_ | ((first | refine s_split_d rfl rfl (fun h => ?_) (fun h => ?_) | refine s_split_n rfl rfl (fun h => ?_) (fun h => ?_)) <;> (try (first | contradiction | (exfalso; omega)))) | refine s_split_nb rfl rfl (fun h => ?_) (fun h => ?_) | refine s_split rfl rfl (fun h => ?_) (fun h => ?_))) | (refine kS ?_; (first | refine h_exec rfl ?_ | refine h_take_nil rfl rfl rfl ?_ | refine h_take_pick rfl rfl rfl ?_ | refine h_nil ?_ | refine h_alt ?_ ?_ | apply h_take)) | refine h_back_last rfl ?_ | refine h_back subA ?_ | refine l_then ?_ | (refine kC ?_; (first | (refine c_regionS (SPlan.take 0 (SPlan.take 1 (SPlan.take 2 (SPlan.take 3 (SPlan.take 4 ((SPlan.run 5 (SPlan.run 6 (SPlan.run 7 SPlan.done))).alt (SPlan.run 6 (SPlan.run 5 (SPlan.run 7 SPlan.done))))))))) (some 7) rfl (by decide +kernel) ?_) | (refine c_regionS (SPlan.take 0 (SPlan.take 1 (SPlan.take 2 (SPlan.take 3 (SPlan.take 4 ((SPlan.run 5 (SPlan.run 6 (SPlan.run 7 SPlan.done))).alt (SPlan.run 6 (SPlan.run 5 (SPlan.run 7 SPlan.done))))))))) none rfl (by decide +kernel) ?_) | (refine c_loopV (ι := Nat × SPiece) (fun k => k.1 ≤ l.length ∧ OBools _ (gvals (points (l.take k.1))) k.2) (fun k => [(5, .int .i64 (k.1 : Int))]) (fun k => [_, k.2]) (fun k => l.length - k.1) (0, _) ⟨by dsimp only; omega, by dsimp only; rw [← hzero]; exact OBools.full _ false (by unfold maxLen; omega)⟩ rfl (fun _ => rfl) ⟨rfl, trivial⟩ (fun w hw => hw) (fun k hk => ?_); obtain ⟨hk1, hk2⟩ := hk) | (refine c_loopV (ι := Nat × SPiece) (fun j => (j.1 : Int) ≤ ((l.getD k.1 DRect.zero).inter DRect.screen).H ∧ OBools _ (gvals (boxG ((l.getD k.1 DRect.zero).inter DRect.screen) (points (l.take k.1)) j.1 0)) j.2) (fun j => [(7, .int .i64 (((l.getD k.1 DRect.zero).inter DRect.screen).Y + (j.1 : Int)))]) (fun j => [_, _, j.2]) (fun j => ((l.getD k.1 DRect.zero).inter DRect.screen).H.toNat - j.1) (0, _) ⟨by have := hin k.1; dsimp only; omega, by rw [gvals_congr (boxG_zero _ _)]; exact hk2⟩ rfl (fun _ => rfl) ⟨slook_to rfl (vint_to (by simp)), trivial⟩ (fun w hw => hw) (fun j hj => ?_); obtain ⟨hj1, hj2⟩ := hj) | (refine c_loopV (ι := Nat × SPiece) (fun i => (i.1 : Int) ≤ ((l.getD k.1 DRect.zero).inter DRect.screen).W ∧ OBools _ (gvals (boxG ((l.getD k.1 DRect.zero).inter DRect.screen) (points (l.take k.1)) j.1 i.1)) i.2) (fun i => [(8, .int .i64 (((l.getD k.1 DRect.zero).inter DRect.screen).X + (i.1 : Int)))]) (fun i => [_, _, i.2]) (fun i => ((l.getD k.1 DRect.zero).inter DRect.screen).W.toNat - i.1) (0, _) ⟨by have := hin k.1; dsimp only; omega, hj2⟩ rfl (fun _ => rfl) ⟨slook_to rfl (vint_to (by simp)), trivial⟩ (fun w hw => hw) (fun i hi => ?_); obtain ⟨hi1, hi2⟩ := hi) | refine c_seq ?_ | refine c_region ?_ | refine c_ret ?_ | (refine kCond ?_; (first | refine c_cond_t rfl ?_ | refine c_cond_f rfl ?_ | ((first | refine c_cond_d rfl (fun h => ?_) (fun h => ?_) | refine c_cond_n rfl (fun h => ?_) (fun h => ?_)) <;> (try (first | contradiction | (exfalso; omega)))) | refine c_cond_nb rfl (fun h => ?_) (fun h => ?_) | refine c_cond rfl (fun h => ?_) (fun h => ?_))) | refine c_block ?_ | refine c_skip ?_ | refine c_exit ?_ | refine c_regionQ rfl (by decide +kernel) ?_)) | apply s_stepQ | (refine kQG ?_; (first | refine s_gyesQ rfl rfl rfl ?_ | refine s_gnoQ rfl rfl rfl rfl rfl ?_ | ((first | refine s_splitQ_d rfl rfl (fun h => ?_) (fun h => ?_) | refine s_splitQ_n rfl rfl (fun h => ?_) (fun h => ?_)) <;> (try (first | contradiction | (exfalso; omega)))) | refine s_splitQ_nb rfl rfl (fun h => ?_) (fun h => ?_) | refine s_splitQ rfl rfl (fun h => ?_) (fun h => ?_))) | refine lQ_then ?_ | refine lQ_ends ?_ | (refine kE ?_; (first | refine e_then_r ?_ | refine e_block_r ?_ | refine e_then_n ?_ | refine e_then_x ?_ | refine e_block_n ?_ | refine e_block_x ?_ | refine e_block_y rfl ?_)) | refine l_ends ?_)
  · have hk0 := hin k.1
    rw [boxG_put ⟨by omega, by omega⟩ (by omega) (by omega) (by omega) (by omega)] at hu
    exact e_round (i.1 + 1, H') ⟨by dsimp only; omega, hu⟩ ⟨slook_to rfl (vint_to (by push_cast; omega)), (by repeat' first | exact trivial | refine ⟨rfl, ?_⟩)⟩ (fun w hw => hw) (by dsimp only; omega)
  · have hk0 := hin k.1
    rw [gvals_congr (boxG_row (by omega))] at hi2
    exact e_round (j.1 + 1, i.2) ⟨by dsimp only; omega, hi2⟩ ⟨slook_to rfl (vint_to (by push_cast; omega)), (by repeat' first | exact trivial | refine ⟨rfl, ?_⟩)⟩ (fun w hw => hw) (by dsimp only; omega)
  · have hk0 := hin k.1
    have hok : ((l.getD k.1 DRect.zero).inter DRect.screen).ok := by unfold DRect.ok; omega
    rw [gvals_congr ((boxG_all hok (by omega)).trans (points_take_screen (by omega)))] at hj2
    exact e_round (k.1 + 1, j.2) ⟨by dsimp only; omega, hj2⟩ ⟨slook_to rfl (vint_to (by push_cast; rfl)), (by repeat' first | exact trivial | refine ⟨rfl, ?_⟩)⟩ (fun w hw => hw.sub (selO_sub [false, true, true] _ _ rfl)) (by dsimp only; omega)
  · have hk0 := hin k.1
    rw [boxG_put ⟨by omega, by omega⟩ (by omega) (by omega) (by omega) (by omega)] at hu
    exact e_round (i.1 + 1, H') ⟨by dsimp only; omega, hu⟩ ⟨slook_to rfl (vint_to (by push_cast; omega)), (by repeat' first | exact trivial | refine ⟨rfl, ?_⟩)⟩ (fun w hw => hw) (by dsimp only; omega)
  · have hk0 := hin k.1
    rw [gvals_congr (boxG_row (by omega))] at hi2
    exact e_round (j.1 + 1, i.2) ⟨by dsimp only; omega, hi2⟩ ⟨slook_to rfl (vint_to (by push_cast; omega)), (by repeat' first | exact trivial | refine ⟨rfl, ?_⟩)⟩ (fun w hw => hw) (by dsimp only; omega)
  · have hk0 := hin k.1
    have hok : ((l.getD k.1 DRect.zero).inter DRect.screen).ok := by unfold DRect.ok; omega
    rw [gvals_congr ((boxG_all hok (by omega)).trans (points_take_screen (by omega)))] at hj2
    exact e_round (k.1 + 1, j.2) ⟨by dsimp only; omega, hj2⟩ ⟨slook_to rfl (vint_to (by push_cast; rfl)), (by repeat' first | exact trivial | refine ⟨rfl, ?_⟩)⟩ (fun w hw => hw.sub (selO_sub [false, true, true] _ _ rfl)) (by dsimp only; omega)
  · have e : k.1 = l.length := by omega
    rw [e, List.take_length] at hk2
    exact s_leave1 rfl rfl (fun w hw => ⟨_, _, rfl, hk2, hw.toFresh (H := k.2) gpA⟩)
end Go.Proofs.Ytbpflnececfkmaa
