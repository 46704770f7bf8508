/-
  Contract: the canonical form of a grid, by the reference.
-/
import Derived.Test.YtbpflnececfkmaaL10
set_option linter.unusedVariables false
namespace Go.Proofs.Ytbpflnececfkmaa
open Go Sx
attribute [local irreducible] Exit.then Exit.inBlock bodyPost
theorem sameRow_true {g : Grid} {y z : Nat} (h : ∀ i, i < 16 → g z i = g y i) : sameRow g y z = true := sameRow_iff.2 h
theorem sameRow_false {g : Grid} {y z i : Nat} (hi : i < 16) (h : g z i ≠ g y i) : sameRow g y z = false := by
  cases e : sameRow g y z
  · rfl
  · exact absurd (sameRow_iff.1 e i hi) h
theorem gv_at (g : Grid) {y : Nat} {x : Nat} (hy : y < 16) (hx : x < 16) : (gvals g).getD ((y : Int) * 16 + (x : Int)).toNat false = g y x := by
  rw [show ((y : Int) * 16 + (x : Int)).toNat = y * 16 + x by omega]; exact gvals_at g hy hx
set_option maxRecDepth 1000000 in
theorem c_l03Row (v : Value) (g : Grid) (y z : Nat) (W : World) (hy : y < 16) (hz : z < 16) (hv : RBools W v (gvals g)) : SYields Try.prog 224 #[v, .int .i64 (y : Int), .int .i64 (z : Int)] (.bool (sameRow g y z)) W := by
  have hgl := gvals_length g
  have hv' := hv.form
  obtain ⟨_, _, rfl⟩ := hv'
  (first | apply SYields.mk | apply SYieldsF.mk | skip); refine s_enter Try.func224 rfl Try.ntmps224 rfl ?_
  repeat' (first | exact rfl | (apply kO; (first | exact ov_pure rfl | (apply kOBin; (first | exact aBin)) | (apply kOCall; (first | (apply kCallB; (first | exact aBlt | exact aLenR)))) | (apply kOLoad; (first | exact (ov_ldR0 (fun w hw => RRow.keep hv (hw.cells rfl)) rfl rfl (by rw [hgl]; omega) rfl) | exact aLdF | exact aLdR)) | exact ov_fieldAddr rfl | (apply kOIdx; (first | exact (ov_idxR (fun w hw => RRow.keep hv (hw.cells rfl)) rfl rfl (by rw [hgl]; omega)) | exact aIdx)) | exact aRest | exact aNew | exact (ov_field1 (ft := 37) rfl rfl rfl rfl))) | (refine kN ?_; (first | (refine kStore ?_; (first | refine s_store1 _ rfl rfl gpA rfl (by rfl) ?_ | refine s_storeS _ rfl rfl gpA rfl rfl (by rfl) ?_ | refine s_storeS _ rfl rfl gpA rfl (ones_img oiA) (by rfl) ?_)) | refine s_boxS rfl rfl (fun b hb => ?_) | refine s_allocS rfl (fun b hb => ?_) | refine s_box1 rfl rfl rfl (fun b hb => ?_) | refine s_alloc1 rfl rfl (fun b hb => ?_) | refine s_buildSlice0 rfl (fun b hb => ?_) | refine s_buildSlice rfl rfl rfl rfl rfl (fun b hb => ?_) | apply s_step)) | (refine kG ?_; (first | refine s_gyes rfl rfl rfl ?_ | refine s_gno rfl rfl rfl rfl rfl ?_ | ((first | refine s_split_d rfl rfl (fun h => ?_) (fun h => ?_) | refine s_split_n rfl rfl (fun h => ?_) (fun h => ?_)) <;> (try (first | contradiction | (exfalso; omega)))) | refine s_split_nb rfl rfl (fun h => ?_) (fun h => ?_) | refine s_split rfl rfl (fun h => ?_) (fun h => ?_))) | refine l_then ?_ | (refine kC ?_; (first | (refine c_loopV (ι := Nat) (fun x => x ≤ 16 ∧ ∀ i, i < x → g z i = g y i) (fun x => [(7, .int .i64 (x : Int))]) (fun _ => []) (fun x => 16 - x) 0 ⟨by omega, fun i hi => by omega⟩ rfl (fun _ => rfl) ⟨rfl, trivial⟩ (fun w hw => hw) (fun x hx => ?_)) | refine c_seq ?_ | refine c_region ?_ | refine c_ret ?_ | (refine kCond ?_; (first | refine c_cond_t rfl ?_ | refine c_cond_f rfl ?_ | ((first | refine c_cond_d rfl (fun h => ?_) (fun h => ?_) | refine c_cond_n rfl (fun h => ?_) (fun h => ?_)) <;> (try (first | contradiction | (exfalso; omega)))) | refine c_cond_nb rfl (fun h => ?_) (fun h => ?_) | refine c_cond rfl (fun h => ?_) (fun h => ?_))) | refine c_block ?_ | refine c_skip ?_ | refine c_exit ?_ | refine c_regionQ rfl (by decide +kernel) ?_)) | apply s_stepQ | (refine kQG ?_; (first | refine s_gyesQ rfl rfl rfl ?_ | refine s_gnoQ rfl rfl rfl rfl rfl ?_ | ((first | refine s_splitQ_d rfl rfl (fun h => ?_) (fun h => ?_) | refine s_splitQ_n rfl rfl (fun h => ?_) (fun h => ?_)) <;> (try (first | contradiction | (exfalso; omega)))) | refine s_splitQ_nb rfl rfl (fun h => ?_) (fun h => ?_) | refine s_splitQ rfl rfl (fun h => ?_) (fun h => ?_))) | refine lQ_then ?_ | refine lQ_ends ?_ | (refine kE ?_; (first | refine e_then_r ?_ | refine e_block_r ?_ | refine e_then_n ?_ | refine e_then_x ?_ | refine e_block_n ?_ | refine e_block_x ?_ | refine e_block_y rfl ?_)) | refine l_ends ?_)
  · rw [gv_at g hy (by omega), gv_at g hz (by omega)] at h
    exact s_leave1 rfl rfl (fun w hw => ⟨by rw [sameRow_false (g := g) (y := y) (z := z) (i := x) (by omega) (fun e => h e.symm)], hw.below⟩)
  · rw [gv_at g hy (by omega), gv_at g hz (by omega)] at h
    refine e_round (x + 1) ⟨by omega, fun i hi => ?_⟩ ⟨slook_to rfl (vint_to (by push_cast; rfl)), (by repeat' first | exact trivial | refine ⟨rfl, ?_⟩)⟩ (fun w hw => hw) (by omega)
    by_cases e : i = x
    · subst e; exact h.symm
    · exact hx.2 i (by omega)
  · exact s_leave1 rfl rfl (fun w hw => ⟨by rw [sameRow_true (g := g) (y := y) (z := z) (fun i hi => hx.2 i (by omega))], hw.below⟩)
end Go.Proofs.Ytbpflnececfkmaa
