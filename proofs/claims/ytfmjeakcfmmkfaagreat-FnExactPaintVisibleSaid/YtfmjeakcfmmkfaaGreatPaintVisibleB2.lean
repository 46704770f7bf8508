/-
  Texts that the law stands on, part 2: K13, KU, M2, M3, L1, KR, L2, M5, M8, M9, M11, K12, M6, K14.
-/
import Derived.Test.YtfmjeakcfmmkfaaGreatPaintVisibleB1
/-
  Contracts: faded pixels; places in oriented and in scaled pictures.
-/
set_option linter.unusedVariables false
namespace Go.Proofs.YtfmjeakcfmmkfaaGreat
open Go Sx
attribute [local irreducible] Exit.then Exit.inBlock bodyPost
theorem c_ipart (a c : Int) (w : World) : SYields Tryz.prog 219 #[.int .i64 a, .int .i64 c] (.int .i64 (prt a c)) w := by
  have hm := fun (h1 : 0 ≤ a ∧ a ≤ 255) (h2 : 0 ≤ c ∧ c ≤ 255) => mul_bd h1 h2
  (first | apply SYields.mk | apply SYieldsF.mk | skip); refine s_enter Tryz.func219 rfl Tryz.ntmps219 rfl ?_
  repeat' (first | exact rfl | (apply kO; (first | exact ov_pure rfl | (apply kOBin; (first | exact aBin | exact (ov_mul rfl rfl (by have := hm (by omega) (by omega); omega)) | exact (ov_add rfl rfl (by have := hm (by omega) (by omega); omega)) | exact (ov_quo rfl rfl (by have := hm (by omega) (by omega); omega)))) | (apply kOCall; (first | (apply kCallF; (first | exact (ov_call rfl (fun w hw => c_within _ _ _ w)))) | (apply kCallB; (first | exact aBlt | exact aLenR)))) | (apply kOLoad; (first | exact aLdF | exact aLdR)) | exact ov_fieldAddr rfl | (apply kOIdx; (first | exact aIdx)) | exact aRest | exact aNew | exact (ov_field1 (ft := 31) rfl rfl rfl rfl))) | (refine kN ?_; (first | (refine kStore ?_; (first | refine s_store1 _ rfl rfl gpA rfl (by rfl) ?_ | refine s_storeS _ rfl rfl gpA rfl rfl (by rfl) ?_ | refine s_storeS _ rfl rfl gpA rfl (ones_img oiA) (by rfl) ?_)) | refine s_boxS rfl rfl (fun b hb => ?_) | refine s_allocS rfl (fun b hb => ?_) | refine s_box1 rfl rfl rfl (fun b hb => ?_) | refine s_alloc1 rfl rfl (fun b hb => ?_) | refine s_buildSlice0 rfl (fun b hb => ?_) | refine s_buildSlice rfl rfl rfl rfl rfl (fun b hb => ?_) | apply s_step)) | (refine kG ?_; (first | refine s_gyes rfl rfl rfl ?_ | refine s_gno rfl rfl rfl rfl rfl ?_ | ((first | refine s_split_d rfl rfl (fun h => ?_) (fun h => ?_) | refine s_split_n rfl rfl (fun h => ?_) (fun h => ?_)) <;> (try (first | contradiction | (exfalso; omega)))) | refine s_split_nb rfl rfl (fun h => ?_) (fun h => ?_) | refine s_split rfl rfl (fun h => ?_) (fun h => ?_))) | refine l_then ?_ | (refine kC ?_; (first | refine c_seq ?_ | refine c_regionN rfl ?_ | refine c_ret ?_ | (refine kCond ?_; (first | refine c_cond_t rfl ?_ | refine c_cond_f rfl ?_ | ((first | refine c_cond_d rfl (fun h => ?_) (fun h => ?_) | refine c_cond_n rfl (fun h => ?_) (fun h => ?_)) <;> (try (first | contradiction | (exfalso; omega)))) | refine c_cond_nb rfl (fun h => ?_) (fun h => ?_) | refine c_cond rfl (fun h => ?_) (fun h => ?_))) | refine c_block ?_ | refine c_skip ?_ | refine c_exit ?_ | refine c_regionQN rfl rfl (by decide +kernel) ?_)) | apply s_stepQ | (refine kQG ?_; (first | refine s_gyesQ rfl rfl rfl ?_ | refine s_gnoQ rfl rfl rfl rfl rfl ?_ | ((first | refine s_splitQ_d rfl rfl (fun h => ?_) (fun h => ?_) | refine s_splitQ_n rfl rfl (fun h => ?_) (fun h => ?_)) <;> (try (first | contradiction | (exfalso; omega)))) | refine s_splitQ_nb rfl rfl (fun h => ?_) (fun h => ?_) | refine s_splitQ rfl rfl (fun h => ?_) (fun h => ?_))) | refine lQ_then ?_ | refine lQ_ends ?_ | (refine kE ?_; (first | refine e_then_r ?_ | refine e_block_r ?_ | refine e_then_n ?_ | refine e_then_x ?_ | refine e_block_n ?_ | refine e_block_x ?_ | refine e_block_y rfl ?_)) | refine l_ends ?_)
  all_goals refine s_leave1 rfl rfl (fun w hw => ⟨?_, hw.below⟩)
  all_goals (refine ret_int ?_; unfold prt byteP; first | (rw [if_neg (by omega)]; done) | rw [if_pos ⟨by omega, by omega⟩])
theorem c_ifade (p a : Int) (w : World) : SYields Tryz.prog 235 #[.int .i64 p, .int .i64 a] (.int .i64 (fade p a)) w := by
  have hp := fun (h : byteP a) => prt_bd (chan_bd p 0) h
  (first | apply SYields.mk | apply SYieldsF.mk | skip); refine s_enter Tryz.func235 rfl Tryz.ntmps235 rfl ?_
  repeat' (first | exact rfl | (apply kO; (first | exact ov_pure rfl | (apply kOBin; (first | exact aBin | exact (ov_shlN 24 16777216 (by decide) (by decide) rfl rfl (by have := hp (by unfold byteP; omega); omega)) | exact (ov_orS 24 (p := 16777216) (by decide) rfl rfl (by have := hp (by unfold byteP; omega); omega) (by omega)) | exact (ov_add rfl rfl (by have := hp (by unfold byteP; omega); omega)))) | (apply kOCall; (first | (apply kCallF; (first | exact (ov_call rfl (fun w hw => c_within _ _ _ w)) | exact (ov_call rfl (fun w hw => c_isPixel _ w)) | exact (ov_call rfl (fun w hw => c_channel _ _ w (by omega))) | exact (ov_call rfl (fun w hw => c_ipart _ _ w)))) | (apply kCallB; (first | exact aBlt | exact aLenR)))) | (apply kOLoad; (first | exact aLdF | exact aLdR)) | exact ov_fieldAddr rfl | (apply kOIdx; (first | exact aIdx)) | exact aRest | exact aNew | exact (ov_field1 (ft := 31) rfl rfl rfl rfl))) | (refine kN ?_; (first | (refine kStore ?_; (first | refine s_store1 _ rfl rfl gpA rfl (by rfl) ?_ | refine s_storeS _ rfl rfl gpA rfl rfl (by rfl) ?_ | refine s_storeS _ rfl rfl gpA rfl (ones_img oiA) (by rfl) ?_)) | refine s_boxS rfl rfl (fun b hb => ?_) | refine s_allocS rfl (fun b hb => ?_) | refine s_box1 rfl rfl rfl (fun b hb => ?_) | refine s_alloc1 rfl rfl (fun b hb => ?_) | refine s_buildSlice0 rfl (fun b hb => ?_) | refine s_buildSlice rfl rfl rfl rfl rfl (fun b hb => ?_) | apply s_step)) | (refine kG ?_; (first | refine s_gyes rfl rfl rfl ?_ | refine s_gno rfl rfl rfl rfl rfl ?_ | ((first | refine s_split_d rfl rfl (fun h => ?_) (fun h => ?_) | refine s_split_n rfl rfl (fun h => ?_) (fun h => ?_)) <;> (try (first | contradiction | (exfalso; omega)))) | refine s_split_nb rfl rfl (fun h => ?_) (fun h => ?_) | refine s_split rfl rfl (fun h => ?_) (fun h => ?_))) | refine l_then ?_ | (refine kC ?_; (first | refine c_seq ?_ | refine c_regionN rfl ?_ | refine c_ret ?_ | (refine kCond ?_; (first | refine c_cond_t rfl ?_ | refine c_cond_f rfl ?_ | ((first | refine c_cond_d rfl (fun h => ?_) (fun h => ?_) | refine c_cond_n rfl (fun h => ?_) (fun h => ?_)) <;> (try (first | contradiction | (exfalso; omega)))) | refine c_cond_nb rfl (fun h => ?_) (fun h => ?_) | refine c_cond rfl (fun h => ?_) (fun h => ?_))) | refine c_block ?_ | refine c_skip ?_ | refine c_exit ?_ | refine c_regionQN rfl rfl (by decide +kernel) ?_)) | apply s_stepQ | (refine kQG ?_; (first | refine s_gyesQ rfl rfl rfl ?_ | refine s_gnoQ rfl rfl rfl rfl rfl ?_ | ((first | refine s_splitQ_d rfl rfl (fun h => ?_) (fun h => ?_) | refine s_splitQ_n rfl rfl (fun h => ?_) (fun h => ?_)) <;> (try (first | contradiction | (exfalso; omega)))) | refine s_splitQ_nb rfl rfl (fun h => ?_) (fun h => ?_) | refine s_splitQ rfl rfl (fun h => ?_) (fun h => ?_))) | refine lQ_then ?_ | refine lQ_ends ?_ | (refine kE ?_; (first | refine e_then_r ?_ | refine e_block_r ?_ | refine e_then_n ?_ | refine e_then_x ?_ | refine e_block_n ?_ | refine e_block_x ?_ | refine e_block_y rfl ?_)) | refine l_ends ?_)
  all_goals refine s_leave1 rfl rfl (fun w hw => ⟨?_, hw.below⟩)
  all_goals (refine ret_int ?_; unfold fade; first | (rw [if_neg (by simp only [pixP, byteP]; omega)]; done) | (rw [if_pos ⟨by unfold pixP; omega, by unfold byteP; omega⟩]; done) | (rw [if_pos ⟨by unfold pixP; omega, by unfold byteP; omega⟩]; omega))
theorem c_iscalePoint (f t k : Int) (w : World) : SYields Tryz.prog 234 #[.int .i64 f, .int .i64 t, .int .i64 k] (.int .i64 (scalePoint f t k)) w := by
  have hm := fun (h1 : 0 ≤ k ∧ k ≤ 15) (h2 : 0 ≤ f ∧ f ≤ 16) => mul_bd h1 h2
  (first | apply SYields.mk | apply SYieldsF.mk | skip); refine s_enter Tryz.func234 rfl Tryz.ntmps234 rfl ?_
  repeat' (first | exact rfl | (apply kO; (first | exact ov_pure rfl | (apply kOBin; (first | exact aBin | exact (ov_mul rfl rfl (by have := hm (by omega) (by omega); omega)) | exact (ov_quo rfl rfl (by have := hm (by omega) (by omega); omega)))) | (apply kOCall; (first | (apply kCallF; (first | exact (ov_call rfl (fun w hw => c_within _ _ _ w)) | exact (ov_call rfl (fun w hw => c_isSide _ w)))) | (apply kCallB; (first | exact aBlt | exact aLenR)))) | (apply kOLoad; (first | exact aLdF | exact aLdR)) | exact ov_fieldAddr rfl | (apply kOIdx; (first | exact aIdx)) | exact aRest | exact aNew | exact (ov_field1 (ft := 31) rfl rfl rfl rfl))) | (refine kN ?_; (first | (refine kStore ?_; (first | refine s_store1 _ rfl rfl gpA rfl (by rfl) ?_ | refine s_storeS _ rfl rfl gpA rfl rfl (by rfl) ?_ | refine s_storeS _ rfl rfl gpA rfl (ones_img oiA) (by rfl) ?_)) | refine s_boxS rfl rfl (fun b hb => ?_) | refine s_allocS rfl (fun b hb => ?_) | refine s_box1 rfl rfl rfl (fun b hb => ?_) | refine s_alloc1 rfl rfl (fun b hb => ?_) | refine s_buildSlice0 rfl (fun b hb => ?_) | refine s_buildSlice rfl rfl rfl rfl rfl (fun b hb => ?_) | apply s_step)) | (refine kG ?_; (first | refine s_gyes rfl rfl rfl ?_ | refine s_gno rfl rfl rfl rfl rfl ?_ | ((first | refine s_split_d rfl rfl (fun h => ?_) (fun h => ?_) | refine s_split_n rfl rfl (fun h => ?_) (fun h => ?_)) <;> (try (first | contradiction | (exfalso; omega)))) | refine s_split_nb rfl rfl (fun h => ?_) (fun h => ?_) | refine s_split rfl rfl (fun h => ?_) (fun h => ?_))) | refine l_then ?_ | (refine kC ?_; (first | refine c_seq ?_ | refine c_regionN rfl ?_ | refine c_ret ?_ | (refine kCond ?_; (first | refine c_cond_t rfl ?_ | refine c_cond_f rfl ?_ | ((first | refine c_cond_d rfl (fun h => ?_) (fun h => ?_) | refine c_cond_n rfl (fun h => ?_) (fun h => ?_)) <;> (try (first | contradiction | (exfalso; omega)))) | refine c_cond_nb rfl (fun h => ?_) (fun h => ?_) | refine c_cond rfl (fun h => ?_) (fun h => ?_))) | refine c_block ?_ | refine c_skip ?_ | refine c_exit ?_ | refine c_regionQN rfl rfl (by decide +kernel) ?_)) | apply s_stepQ | (refine kQG ?_; (first | refine s_gyesQ rfl rfl rfl ?_ | refine s_gnoQ rfl rfl rfl rfl rfl ?_ | ((first | refine s_splitQ_d rfl rfl (fun h => ?_) (fun h => ?_) | refine s_splitQ_n rfl rfl (fun h => ?_) (fun h => ?_)) <;> (try (first | contradiction | (exfalso; omega)))) | refine s_splitQ_nb rfl rfl (fun h => ?_) (fun h => ?_) | refine s_splitQ rfl rfl (fun h => ?_) (fun h => ?_))) | refine lQ_then ?_ | refine lQ_ends ?_ | (refine kE ?_; (first | refine e_then_r ?_ | refine e_block_r ?_ | refine e_then_n ?_ | refine e_then_x ?_ | refine e_block_n ?_ | refine e_block_x ?_ | refine e_block_y rfl ?_)) | refine l_ends ?_)
  all_goals refine s_leave1 rfl rfl (fun w hw => ⟨?_, hw.below⟩)
  all_goals (refine ret_int ?_; unfold scalePoint; first | (rw [if_neg (by omega)]; done) | rw [if_pos (by omega)])
theorem c_spart (a c : Int) (w : World) : SYields Tryz.prog 182 #[.int .i64 a, .int .i64 c] (.int .i64 (prt a c)) w := by
  have hm := fun (h1 : 0 ≤ a ∧ a ≤ 255) (h2 : 0 ≤ c ∧ c ≤ 255) => mul_bd h1 h2
  (first | apply SYields.mk | apply SYieldsF.mk | skip); refine s_enter Tryz.func182 rfl Tryz.ntmps182 rfl ?_
  repeat' (first | exact rfl | (apply kO; (first | exact ov_pure rfl | (apply kOBin; (first | exact aBin | exact (ov_mul rfl rfl (by have := hm (by omega) (by omega); omega)) | exact (ov_add rfl rfl (by have := hm (by omega) (by omega); omega)) | exact (ov_quo rfl rfl (by have := hm (by omega) (by omega); omega)))) | (apply kOCall; (first | (apply kCallF; (first | exact (ov_call rfl (fun w hw => c_l01In _ _ _ w)))) | (apply kCallB; (first | exact aBlt | exact aLenR)))) | (apply kOLoad; (first | exact aLdF | exact aLdR)) | exact ov_fieldAddr rfl | (apply kOIdx; (first | exact aIdx)) | exact aRest | exact aNew | exact (ov_field1 (ft := 31) rfl rfl rfl rfl))) | (refine kN ?_; (first | (refine kStore ?_; (first | refine s_store1 _ rfl rfl gpA rfl (by rfl) ?_ | refine s_storeS _ rfl rfl gpA rfl rfl (by rfl) ?_ | refine s_storeS _ rfl rfl gpA rfl (ones_img oiA) (by rfl) ?_)) | refine s_boxS rfl rfl (fun b hb => ?_) | refine s_allocS rfl (fun b hb => ?_) | refine s_box1 rfl rfl rfl (fun b hb => ?_) | refine s_alloc1 rfl rfl (fun b hb => ?_) | refine s_buildSlice0 rfl (fun b hb => ?_) | refine s_buildSlice rfl rfl rfl rfl rfl (fun b hb => ?_) | apply s_step)) | (refine kG ?_; (first | refine s_gyes rfl rfl rfl ?_ | refine s_gno rfl rfl rfl rfl rfl ?_ | ((first | refine s_split_d rfl rfl (fun h => ?_) (fun h => ?_) | refine s_split_n rfl rfl (fun h => ?_) (fun h => ?_)) <;> (try (first | contradiction | (exfalso; omega)))) | refine s_split_nb rfl rfl (fun h => ?_) (fun h => ?_) | refine s_split rfl rfl (fun h => ?_) (fun h => ?_))) | refine l_then ?_ | (refine kC ?_; (first | refine c_seq ?_ | refine c_regionN rfl ?_ | refine c_ret ?_ | (refine kCond ?_; (first | refine c_cond_t rfl ?_ | refine c_cond_f rfl ?_ | ((first | refine c_cond_d rfl (fun h => ?_) (fun h => ?_) | refine c_cond_n rfl (fun h => ?_) (fun h => ?_)) <;> (try (first | contradiction | (exfalso; omega)))) | refine c_cond_nb rfl (fun h => ?_) (fun h => ?_) | refine c_cond rfl (fun h => ?_) (fun h => ?_))) | refine c_block ?_ | refine c_skip ?_ | refine c_exit ?_ | refine c_regionQN rfl rfl (by decide +kernel) ?_)) | apply s_stepQ | (refine kQG ?_; (first | refine s_gyesQ rfl rfl rfl ?_ | refine s_gnoQ rfl rfl rfl rfl rfl ?_ | ((first | refine s_splitQ_d rfl rfl (fun h => ?_) (fun h => ?_) | refine s_splitQ_n rfl rfl (fun h => ?_) (fun h => ?_)) <;> (try (first | contradiction | (exfalso; omega)))) | refine s_splitQ_nb rfl rfl (fun h => ?_) (fun h => ?_) | refine s_splitQ rfl rfl (fun h => ?_) (fun h => ?_))) | refine lQ_then ?_ | refine lQ_ends ?_ | (refine kE ?_; (first | refine e_then_r ?_ | refine e_block_r ?_ | refine e_then_n ?_ | refine e_then_x ?_ | refine e_block_n ?_ | refine e_block_x ?_ | refine e_block_y rfl ?_)) | refine l_ends ?_)
  all_goals refine s_leave1 rfl rfl (fun w hw => ⟨?_, hw.below⟩)
  all_goals (refine ret_int ?_; unfold prt byteP; first | (rw [if_neg (by omega)]; done) | rw [if_pos ⟨by omega, by omega⟩])
theorem c_sfade (p a : Int) (w : World) : SYields Tryz.prog 180 #[.int .i64 p, .int .i64 a] (.int .i64 (fade p a)) w := by
  have hp := fun (h : byteP a) => prt_bd (chan_bd p 0) h
  (first | apply SYields.mk | apply SYieldsF.mk | skip); refine s_enter Tryz.func180 rfl Tryz.ntmps180 rfl ?_
  repeat' (first | exact rfl | (apply kO; (first | exact ov_pure rfl | (apply kOBin; (first | exact aBin | exact (ov_shlN 24 16777216 (by decide) (by decide) rfl rfl (by have := hp (by unfold byteP; omega); omega)) | exact (ov_orS 24 (p := 16777216) (by decide) rfl rfl (by have := hp (by unfold byteP; omega); omega) (by omega)) | exact (ov_add rfl rfl (by have := hp (by unfold byteP; omega); omega)))) | (apply kOCall; (first | (apply kCallF; (first | exact (ov_call rfl (fun w hw => c_l01In _ _ _ w)) | exact (ov_call rfl (fun w hw => c_l04Pixel _ w)) | exact (ov_call rfl (fun w hw => c_schannelIn _ _ w (by omega) (by omega))) | exact (ov_call rfl (fun w hw => c_spart _ _ w)))) | (apply kCallB; (first | exact aBlt | exact aLenR)))) | (apply kOLoad; (first | exact aLdF | exact aLdR)) | exact ov_fieldAddr rfl | (apply kOIdx; (first | exact aIdx)) | exact aRest | exact aNew | exact (ov_field1 (ft := 31) rfl rfl rfl rfl))) | (refine kN ?_; (first | (refine kStore ?_; (first | refine s_store1 _ rfl rfl gpA rfl (by rfl) ?_ | refine s_storeS _ rfl rfl gpA rfl rfl (by rfl) ?_ | refine s_storeS _ rfl rfl gpA rfl (ones_img oiA) (by rfl) ?_)) | refine s_boxS rfl rfl (fun b hb => ?_) | refine s_allocS rfl (fun b hb => ?_) | refine s_box1 rfl rfl rfl (fun b hb => ?_) | refine s_alloc1 rfl rfl (fun b hb => ?_) | refine s_buildSlice0 rfl (fun b hb => ?_) | refine s_buildSlice rfl rfl rfl rfl rfl (fun b hb => ?_) | apply s_step)) | (refine kG ?_; (first | refine s_gyes rfl rfl rfl ?_ | refine s_gno rfl rfl rfl rfl rfl ?_ | ((first | refine s_split_d rfl rfl (fun h => ?_) (fun h => ?_) | refine s_split_n rfl rfl (fun h => ?_) (fun h => ?_)) <;> (try (first | contradiction | (exfalso; omega)))) | refine s_split_nb rfl rfl (fun h => ?_) (fun h => ?_) | refine s_split rfl rfl (fun h => ?_) (fun h => ?_))) | refine l_then ?_ | (refine kC ?_; (first | refine c_seq ?_ | refine c_regionN rfl ?_ | refine c_ret ?_ | (refine kCond ?_; (first | refine c_cond_t rfl ?_ | refine c_cond_f rfl ?_ | ((first | refine c_cond_d rfl (fun h => ?_) (fun h => ?_) | refine c_cond_n rfl (fun h => ?_) (fun h => ?_)) <;> (try (first | contradiction | (exfalso; omega)))) | refine c_cond_nb rfl (fun h => ?_) (fun h => ?_) | refine c_cond rfl (fun h => ?_) (fun h => ?_))) | refine c_block ?_ | refine c_skip ?_ | refine c_exit ?_ | refine c_regionQN rfl rfl (by decide +kernel) ?_)) | apply s_stepQ | (refine kQG ?_; (first | refine s_gyesQ rfl rfl rfl ?_ | refine s_gnoQ rfl rfl rfl rfl rfl ?_ | ((first | refine s_splitQ_d rfl rfl (fun h => ?_) (fun h => ?_) | refine s_splitQ_n rfl rfl (fun h => ?_) (fun h => ?_)) <;> (try (first | contradiction | (exfalso; omega)))) | refine s_splitQ_nb rfl rfl (fun h => ?_) (fun h => ?_) | refine s_splitQ rfl rfl (fun h => ?_) (fun h => ?_))) | refine lQ_then ?_ | refine lQ_ends ?_ | (refine kE ?_; (first | refine e_then_r ?_ | refine e_block_r ?_ | refine e_then_n ?_ | refine e_then_x ?_ | refine e_block_n ?_ | refine e_block_x ?_ | refine e_block_y rfl ?_)) | refine l_ends ?_)
  all_goals refine s_leave1 rfl rfl (fun w hw => ⟨?_, hw.below⟩)
  all_goals (refine ret_int ?_; unfold fade; first | (rw [if_neg (by simp only [pixP, byteP]; omega)]; done) | (rw [if_pos ⟨by unfold pixP; omega, by unfold byteP; omega⟩]; done) | (rw [if_pos ⟨by unfold pixP; omega, by unfold byteP; omega⟩]; omega))
theorem c_sscalePoint (f t k : Int) (w : World) : SYields Tryz.prog 215 #[.int .i64 f, .int .i64 t, .int .i64 k] (.int .i64 (scalePoint f t k)) w := by
  have hm := fun (h1 : 0 ≤ k ∧ k ≤ 15) (h2 : 0 ≤ f ∧ f ≤ 16) => mul_bd h1 h2
  (first | apply SYields.mk | apply SYieldsF.mk | skip); refine s_enter Tryz.func215 rfl Tryz.ntmps215 rfl ?_
  repeat' (first | exact rfl | (apply kO; (first | exact ov_pure rfl | (apply kOBin; (first | exact aBin | exact (ov_mul rfl rfl (by have := hm (by omega) (by omega); omega)) | exact (ov_quo rfl rfl (by have := hm (by omega) (by omega); omega)))) | (apply kOCall; (first | (apply kCallF; (first | exact (ov_call rfl (fun w hw => c_l01In _ _ _ w)))) | (apply kCallB; (first | exact aBlt | exact aLenR)))) | (apply kOLoad; (first | exact aLdF | exact aLdR)) | exact ov_fieldAddr rfl | (apply kOIdx; (first | exact aIdx)) | exact aRest | exact aNew | exact (ov_field1 (ft := 31) rfl rfl rfl rfl))) | (refine kN ?_; (first | (refine kStore ?_; (first | refine s_store1 _ rfl rfl gpA rfl (by rfl) ?_ | refine s_storeS _ rfl rfl gpA rfl rfl (by rfl) ?_ | refine s_storeS _ rfl rfl gpA rfl (ones_img oiA) (by rfl) ?_)) | refine s_boxS rfl rfl (fun b hb => ?_) | refine s_allocS rfl (fun b hb => ?_) | refine s_box1 rfl rfl rfl (fun b hb => ?_) | refine s_alloc1 rfl rfl (fun b hb => ?_) | refine s_buildSlice0 rfl (fun b hb => ?_) | refine s_buildSlice rfl rfl rfl rfl rfl (fun b hb => ?_) | apply s_step)) | (refine kG ?_; (first | refine s_gyes rfl rfl rfl ?_ | refine s_gno rfl rfl rfl rfl rfl ?_ | ((first | refine s_split_d rfl rfl (fun h => ?_) (fun h => ?_) | refine s_split_n rfl rfl (fun h => ?_) (fun h => ?_)) <;> (try (first | contradiction | (exfalso; omega)))) | refine s_split_nb rfl rfl (fun h => ?_) (fun h => ?_) | refine s_split rfl rfl (fun h => ?_) (fun h => ?_))) | refine l_then ?_ | (refine kC ?_; (first | refine c_seq ?_ | refine c_regionN rfl ?_ | refine c_ret ?_ | (refine kCond ?_; (first | refine c_cond_t rfl ?_ | refine c_cond_f rfl ?_ | ((first | refine c_cond_d rfl (fun h => ?_) (fun h => ?_) | refine c_cond_n rfl (fun h => ?_) (fun h => ?_)) <;> (try (first | contradiction | (exfalso; omega)))) | refine c_cond_nb rfl (fun h => ?_) (fun h => ?_) | refine c_cond rfl (fun h => ?_) (fun h => ?_))) | refine c_block ?_ | refine c_skip ?_ | refine c_exit ?_ | refine c_regionQN rfl rfl (by decide +kernel) ?_)) | apply s_stepQ | (refine kQG ?_; (first | refine s_gyesQ rfl rfl rfl ?_ | refine s_gnoQ rfl rfl rfl rfl rfl ?_ | ((first | refine s_splitQ_d rfl rfl (fun h => ?_) (fun h => ?_) | refine s_splitQ_n rfl rfl (fun h => ?_) (fun h => ?_)) <;> (try (first | contradiction | (exfalso; omega)))) | refine s_splitQ_nb rfl rfl (fun h => ?_) (fun h => ?_) | refine s_splitQ rfl rfl (fun h => ?_) (fun h => ?_))) | refine lQ_then ?_ | refine lQ_ends ?_ | (refine kE ?_; (first | refine e_then_r ?_ | refine e_block_r ?_ | refine e_then_n ?_ | refine e_then_x ?_ | refine e_block_n ?_ | refine e_block_x ?_ | refine e_block_y rfl ?_)) | refine l_ends ?_)
  all_goals refine s_leave1 rfl rfl (fun w hw => ⟨?_, hw.below⟩)
  all_goals (refine ret_int ?_; unfold scalePoint; first | (rw [if_neg (by omega)]; done) | rw [if_pos (by omega)])
theorem c_iorientPoint (wd ht o x y : Int) (W : World) : SYields Tryz.prog 232 #[.int .i64 wd, .int .i64 ht, .int .i64 o, .int .i64 x, .int .i64 y] (.tuple #[.int .i64 (orientPoint wd ht o x y).1, .int .i64 (orientPoint wd ht o x y).2]) W := by
  by_cases hok : orientOk wd ht o ∧ (0 ≤ x ∧ x ≤ wd - 1) ∧ (0 ≤ y ∧ y ≤ ht - 1)
  · have hok' := hok
    unfold orientOk at hok'
    obtain ⟨⟨hw0, hh0, ho0⟩, hx0, hy0⟩ := hok'
    have b1 := fun k => o_bd hw0 hh0 hx0 hy0 k
    have b2 := fun k => o_bd (x := wd - 1 - x) hw0 hh0 (by omega) hy0 k
    have hm : (o % 4).toNat ≤ 3 := by omega
    (first | apply SYields.mk | apply SYieldsF.mk | skip); refine s_enter Tryz.func232 rfl Tryz.ntmps232 rfl ?_
    repeat' (first | exact rfl | (apply kO; (first | exact ov_pure rfl | (apply kOBin; (first | exact aBin | exact (ov_sub rfl rfl (by first | omega | (have := b1 k; have := b2 k; omega))))) | (apply kOCall; (first | (apply kCallF; (first | exact (ov_call rfl (fun w hw => c_isSide _ w)) | exact (ov_call rfl (fun w hw => c_isOrient _ w)) | exact (ov_call rfl (fun w hw => c_within _ _ _ w)))) | (apply kCallB; (first | exact aBlt | exact aLenR)))) | (apply kOLoad; (first | exact aLdF | exact aLdR)) | exact ov_fieldAddr rfl | (apply kOIdx; (first | exact aIdx)) | exact aRest | exact aNew | exact (ov_field1 (ft := 31) rfl rfl rfl rfl))) | (refine kN ?_; (first | (refine kStore ?_; (first | refine s_store1 _ rfl rfl gpA rfl (by rfl) ?_ | refine s_storeS _ rfl rfl gpA rfl rfl (by rfl) ?_ | refine s_storeS _ rfl rfl gpA rfl (ones_img oiA) (by rfl) ?_)) | refine s_boxS rfl rfl (fun b hb => ?_) | refine s_allocS rfl (fun b hb => ?_) | refine s_box1 rfl rfl rfl (fun b hb => ?_) | refine s_alloc1 rfl rfl (fun b hb => ?_) | refine s_buildSlice0 rfl (fun b hb => ?_) | refine s_buildSlice rfl rfl rfl rfl rfl (fun b hb => ?_) | apply s_step)) | (refine kG ?_; (first | refine s_gyes rfl rfl rfl ?_ | refine s_gno rfl rfl rfl rfl rfl ?_ | ((first | refine s_split_d rfl rfl (fun h => ?_) (fun h => ?_) | refine s_split_n rfl rfl (fun h => ?_) (fun h => ?_)) <;> (try (first | contradiction | (exfalso; omega)))) | refine s_split_nb rfl rfl (fun h => ?_) (fun h => ?_) | refine s_split rfl rfl (fun h => ?_) (fun h => ?_))) | refine l_then ?_ | (refine kC ?_; (first | (refine c_loopV (ι := Nat) (fun k => k ≤ (o % 4).toNat) (fun k => [(3, .int .i64 (oX wd ht (wd - 1 - x) y k)), (4, .int .i64 (oY wd ht (wd - 1 - x) y k)), (0, .int .i64 (oW wd ht k)), (1, .int .i64 (oW ht wd k)), (47, .int .i64 (k : Int))]) (fun _ => []) (fun k => (o % 4).toNat - k) 0 (by omega) rfl (fun _ => rfl) ⟨rfl, rfl, rfl, rfl, rfl, trivial⟩ (fun w hw => hw) (fun k hk => ?_)) | (refine c_loopV (ι := Nat) (fun k => k ≤ (o % 4).toNat) (fun k => [(3, .int .i64 (oX wd ht x y k)), (4, .int .i64 (oY wd ht x y k)), (0, .int .i64 (oW wd ht k)), (1, .int .i64 (oW ht wd k)), (47, .int .i64 (k : Int))]) (fun _ => []) (fun k => (o % 4).toNat - k) 0 (by omega) rfl (fun _ => rfl) ⟨rfl, rfl, rfl, rfl, rfl, trivial⟩ (fun w hw => hw) (fun k hk => ?_)) | refine c_seq ?_ | refine c_regionN rfl ?_ | refine c_ret ?_ | (refine kCond ?_; (first | refine c_cond_t rfl ?_ | refine c_cond_f rfl ?_ | ((first | refine c_cond_d rfl (fun h => ?_) (fun h => ?_) | refine c_cond_n rfl (fun h => ?_) (fun h => ?_)) <;> (try (first | contradiction | (exfalso; omega)))) | refine c_cond_nb rfl (fun h => ?_) (fun h => ?_) | refine c_cond rfl (fun h => ?_) (fun h => ?_))) | refine c_block ?_ | refine c_skip ?_ | refine c_exit ?_ | refine c_regionQN rfl rfl (by decide +kernel) ?_)) | apply s_stepQ | (refine kQG ?_; (first | refine s_gyesQ rfl rfl rfl ?_ | refine s_gnoQ rfl rfl rfl rfl rfl ?_ | ((first | refine s_splitQ_d rfl rfl (fun h => ?_) (fun h => ?_) | refine s_splitQ_n rfl rfl (fun h => ?_) (fun h => ?_)) <;> (try (first | contradiction | (exfalso; omega)))) | refine s_splitQ_nb rfl rfl (fun h => ?_) (fun h => ?_) | refine s_splitQ rfl rfl (fun h => ?_) (fun h => ?_))) | refine lQ_then ?_ | refine lQ_ends ?_ | (refine kE ?_; (first | refine e_then_r ?_ | refine e_block_r ?_ | refine e_then_n ?_ | refine e_then_x ?_ | refine e_block_n ?_ | refine e_block_x ?_ | refine e_block_y rfl ?_)) | refine l_ends ?_)
    all_goals first | exact e_round (k + 1) (by omega) ⟨slook_to rfl (vint_to (o_next _ _ _ _ k (by omega)).1.symm), slook_to rfl (vint_to (o_next _ _ _ _ k (by omega)).2.1.symm), slook_to rfl (vint_to (o_next wd ht (wd - 1 - x) y k (by omega)).2.2.1.symm), slook_to rfl (vint_to (o_next wd ht (wd - 1 - x) y k (by omega)).2.2.2.symm), rfl, (by repeat' first | exact trivial | refine ⟨rfl, ?_⟩)⟩ (fun w hw => hw) (by omega) | skip
    all_goals (have hk' : k = (o % 4).toNat := by omega)
    all_goals refine s_leave2 rfl rfl rfl (fun w hw => ⟨ret_pair ?_ ?_, hw.below⟩)
    all_goals (rw [hk', orientPoint, if_pos hok, orientPt_turns ho0]; first | rw [if_pos (by omega)] | rw [if_neg (by omega)])
  · have hok2 := hok
    unfold orientOk at hok2
    (first | apply SYields.mk | apply SYieldsF.mk | skip); refine s_enter Tryz.func232 rfl Tryz.ntmps232 rfl ?_
    repeat' (first | exact rfl | (apply kO; (first | exact ov_pure rfl | (apply kOBin; (first | exact aBin | exact (ov_sub rfl rfl (by omega)))) | (apply kOCall; (first | (apply kCallF; (first | exact (ov_call rfl (fun w hw => c_isSide _ w)) | exact (ov_call rfl (fun w hw => c_isOrient _ w)) | exact (ov_call rfl (fun w hw => c_within _ _ _ w)))) | (apply kCallB; (first | exact aBlt | exact aLenR)))) | (apply kOLoad; (first | exact aLdF | exact aLdR)) | exact ov_fieldAddr rfl | (apply kOIdx; (first | exact aIdx)) | exact aRest | exact aNew | exact (ov_field1 (ft := 31) rfl rfl rfl rfl))) | (refine kN ?_; (first | (refine kStore ?_; (first | refine s_store1 _ rfl rfl gpA rfl (by rfl) ?_ | refine s_storeS _ rfl rfl gpA rfl rfl (by rfl) ?_ | refine s_storeS _ rfl rfl gpA rfl (ones_img oiA) (by rfl) ?_)) | refine s_boxS rfl rfl (fun b hb => ?_) | refine s_allocS rfl (fun b hb => ?_) | refine s_box1 rfl rfl rfl (fun b hb => ?_) | refine s_alloc1 rfl rfl (fun b hb => ?_) | refine s_buildSlice0 rfl (fun b hb => ?_) | refine s_buildSlice rfl rfl rfl rfl rfl (fun b hb => ?_) | apply s_step)) | (refine kG ?_; (first | refine s_gyes rfl rfl rfl ?_ | refine s_gno rfl rfl rfl rfl rfl ?_ | ((first | refine s_split_d rfl rfl (fun h => ?_) (fun h => ?_) | refine s_split_n rfl rfl (fun h => ?_) (fun h => ?_)) <;> (try (first | contradiction | (exfalso; omega)))) | refine s_split_nb rfl rfl (fun h => ?_) (fun h => ?_) | refine s_split rfl rfl (fun h => ?_) (fun h => ?_))) | refine l_then ?_ | (refine kC ?_; (first | refine c_seq ?_ | refine c_regionN rfl ?_ | refine c_ret ?_ | (refine kCond ?_; (first | refine c_cond_t rfl ?_ | refine c_cond_f rfl ?_ | ((first | refine c_cond_d rfl (fun h => ?_) (fun h => ?_) | refine c_cond_n rfl (fun h => ?_) (fun h => ?_)) <;> (try (first | contradiction | (exfalso; omega)))) | refine c_cond_nb rfl (fun h => ?_) (fun h => ?_) | refine c_cond rfl (fun h => ?_) (fun h => ?_))) | refine c_block ?_ | refine c_skip ?_ | refine c_exit ?_ | refine c_regionQN rfl rfl (by decide +kernel) ?_)) | apply s_stepQ | (refine kQG ?_; (first | refine s_gyesQ rfl rfl rfl ?_ | refine s_gnoQ rfl rfl rfl rfl rfl ?_ | ((first | refine s_splitQ_d rfl rfl (fun h => ?_) (fun h => ?_) | refine s_splitQ_n rfl rfl (fun h => ?_) (fun h => ?_)) <;> (try (first | contradiction | (exfalso; omega)))) | refine s_splitQ_nb rfl rfl (fun h => ?_) (fun h => ?_) | refine s_splitQ rfl rfl (fun h => ?_) (fun h => ?_))) | refine lQ_then ?_ | refine lQ_ends ?_ | (refine kE ?_; (first | refine e_then_r ?_ | refine e_block_r ?_ | refine e_then_n ?_ | refine e_then_x ?_ | refine e_block_n ?_ | refine e_block_x ?_ | refine e_block_y rfl ?_)) | refine l_ends ?_)
    all_goals refine s_leave2 rfl rfl rfl (fun w hw => ⟨?_, hw.below⟩)
    all_goals (unfold orientPoint; rw [if_neg hok])
theorem c_sorientPoint (wd ht o x y : Int) (W : World) : SYields Tryz.prog 214 #[.int .i64 wd, .int .i64 ht, .int .i64 o, .int .i64 x, .int .i64 y] (.tuple #[.int .i64 (orientPoint wd ht o x y).1, .int .i64 (orientPoint wd ht o x y).2]) W := by
  by_cases hok : orientOk wd ht o ∧ (0 ≤ x ∧ x ≤ wd - 1) ∧ (0 ≤ y ∧ y ≤ ht - 1)
  · have hok' := hok
    unfold orientOk at hok'
    obtain ⟨⟨hw0, hh0, ho0⟩, hx0, hy0⟩ := hok'
    have b1 := fun k => o_bd hw0 hh0 hx0 hy0 k
    have b2 := fun k => o_bd (x := wd - 1 - x) hw0 hh0 (by omega) hy0 k
    have hm : (o % 4).toNat ≤ 3 := by omega
    (first | apply SYields.mk | apply SYieldsF.mk | skip); refine s_enter Tryz.func214 rfl Tryz.ntmps214 rfl ?_
    repeat' (first | exact rfl | (apply kO; (first | exact ov_pure rfl | (apply kOBin; (first | exact aBin | exact (ov_sub rfl rfl (by first | omega | (have := b1 k; have := b2 k; omega))))) | (apply kOCall; (first | (apply kCallF; (first | exact (ov_call rfl (fun w hw => c_l01In _ _ _ w)))) | (apply kCallB; (first | exact aBlt | exact aLenR)))) | (apply kOLoad; (first | exact aLdF | exact aLdR)) | exact ov_fieldAddr rfl | (apply kOIdx; (first | exact aIdx)) | exact aRest | exact aNew | exact (ov_field1 (ft := 31) rfl rfl rfl rfl))) | (refine kN ?_; (first | (refine kStore ?_; (first | refine s_store1 _ rfl rfl gpA rfl (by rfl) ?_ | refine s_storeS _ rfl rfl gpA rfl rfl (by rfl) ?_ | refine s_storeS _ rfl rfl gpA rfl (ones_img oiA) (by rfl) ?_)) | refine s_boxS rfl rfl (fun b hb => ?_) | refine s_allocS rfl (fun b hb => ?_) | refine s_box1 rfl rfl rfl (fun b hb => ?_) | refine s_alloc1 rfl rfl (fun b hb => ?_) | refine s_buildSlice0 rfl (fun b hb => ?_) | refine s_buildSlice rfl rfl rfl rfl rfl (fun b hb => ?_) | apply s_step)) | (refine kG ?_; (first | refine s_gyes rfl rfl rfl ?_ | refine s_gno rfl rfl rfl rfl rfl ?_ | ((first | refine s_split_d rfl rfl (fun h => ?_) (fun h => ?_) | refine s_split_n rfl rfl (fun h => ?_) (fun h => ?_)) <;> (try (first | contradiction | (exfalso; omega)))) | refine s_split_nb rfl rfl (fun h => ?_) (fun h => ?_) | refine s_split rfl rfl (fun h => ?_) (fun h => ?_))) | refine l_then ?_ | (refine kC ?_; (first | (refine c_loopV (ι := Nat) (fun k => k ≤ (o % 4).toNat) (fun k => [(3, .int .i64 (oX wd ht (wd - 1 - x) y k)), (4, .int .i64 (oY wd ht (wd - 1 - x) y k)), (0, .int .i64 (oW wd ht k)), (1, .int .i64 (oW ht wd k)), (12, .int .i64 (k : Int))]) (fun _ => []) (fun k => (o % 4).toNat - k) 0 (by omega) rfl (fun _ => rfl) ⟨rfl, rfl, rfl, rfl, rfl, trivial⟩ (fun w hw => hw) (fun k hk => ?_)) | (refine c_loopV (ι := Nat) (fun k => k ≤ (o % 4).toNat) (fun k => [(3, .int .i64 (oX wd ht x y k)), (4, .int .i64 (oY wd ht x y k)), (0, .int .i64 (oW wd ht k)), (1, .int .i64 (oW ht wd k)), (12, .int .i64 (k : Int))]) (fun _ => []) (fun k => (o % 4).toNat - k) 0 (by omega) rfl (fun _ => rfl) ⟨rfl, rfl, rfl, rfl, rfl, trivial⟩ (fun w hw => hw) (fun k hk => ?_)) | refine c_seq ?_ | refine c_regionN rfl ?_ | refine c_ret ?_ | (refine kCond ?_; (first | refine c_cond_t rfl ?_ | refine c_cond_f rfl ?_ | ((first | refine c_cond_d rfl (fun h => ?_) (fun h => ?_) | refine c_cond_n rfl (fun h => ?_) (fun h => ?_)) <;> (try (first | contradiction | (exfalso; omega)))) | refine c_cond_nb rfl (fun h => ?_) (fun h => ?_) | refine c_cond rfl (fun h => ?_) (fun h => ?_))) | refine c_block ?_ | refine c_skip ?_ | refine c_exit ?_ | refine c_regionQN rfl rfl (by decide +kernel) ?_)) | apply s_stepQ | (refine kQG ?_; (first | refine s_gyesQ rfl rfl rfl ?_ | refine s_gnoQ rfl rfl rfl rfl rfl ?_ | ((first | refine s_splitQ_d rfl rfl (fun h => ?_) (fun h => ?_) | refine s_splitQ_n rfl rfl (fun h => ?_) (fun h => ?_)) <;> (try (first | contradiction | (exfalso; omega)))) | refine s_splitQ_nb rfl rfl (fun h => ?_) (fun h => ?_) | refine s_splitQ rfl rfl (fun h => ?_) (fun h => ?_))) | refine lQ_then ?_ | refine lQ_ends ?_ | (refine kE ?_; (first | refine e_then_r ?_ | refine e_block_r ?_ | refine e_then_n ?_ | refine e_then_x ?_ | refine e_block_n ?_ | refine e_block_x ?_ | refine e_block_y rfl ?_)) | refine l_ends ?_)
    all_goals first | exact e_round (k + 1) (by omega) ⟨slook_to rfl (vint_to (o_next _ _ _ _ k (by omega)).1.symm), slook_to rfl (vint_to (o_next _ _ _ _ k (by omega)).2.1.symm), slook_to rfl (vint_to (o_next wd ht (wd - 1 - x) y k (by omega)).2.2.1.symm), slook_to rfl (vint_to (o_next wd ht (wd - 1 - x) y k (by omega)).2.2.2.symm), rfl, (by repeat' first | exact trivial | refine ⟨rfl, ?_⟩)⟩ (fun w hw => hw) (by omega) | skip
    all_goals (have hk' : k = (o % 4).toNat := by omega)
    all_goals refine s_leave2 rfl rfl rfl (fun w hw => ⟨ret_pair ?_ ?_, hw.below⟩)
    all_goals (rw [hk', orientPoint, if_pos hok, orientPt_turns ho0]; first | rw [if_pos (by omega)] | rw [if_neg (by omega)])
  · have hok2 := hok
    unfold orientOk at hok2
    (first | apply SYields.mk | apply SYieldsF.mk | skip); refine s_enter Tryz.func214 rfl Tryz.ntmps214 rfl ?_
    repeat' (first | exact rfl | (apply kO; (first | exact ov_pure rfl | (apply kOBin; (first | exact aBin | exact (ov_sub rfl rfl (by omega)))) | (apply kOCall; (first | (apply kCallF; (first | exact (ov_call rfl (fun w hw => c_l01In _ _ _ w)))) | (apply kCallB; (first | exact aBlt | exact aLenR)))) | (apply kOLoad; (first | exact aLdF | exact aLdR)) | exact ov_fieldAddr rfl | (apply kOIdx; (first | exact aIdx)) | exact aRest | exact aNew | exact (ov_field1 (ft := 31) rfl rfl rfl rfl))) | (refine kN ?_; (first | (refine kStore ?_; (first | refine s_store1 _ rfl rfl gpA rfl (by rfl) ?_ | refine s_storeS _ rfl rfl gpA rfl rfl (by rfl) ?_ | refine s_storeS _ rfl rfl gpA rfl (ones_img oiA) (by rfl) ?_)) | refine s_boxS rfl rfl (fun b hb => ?_) | refine s_allocS rfl (fun b hb => ?_) | refine s_box1 rfl rfl rfl (fun b hb => ?_) | refine s_alloc1 rfl rfl (fun b hb => ?_) | refine s_buildSlice0 rfl (fun b hb => ?_) | refine s_buildSlice rfl rfl rfl rfl rfl (fun b hb => ?_) | apply s_step)) | (refine kG ?_; (first | refine s_gyes rfl rfl rfl ?_ | refine s_gno rfl rfl rfl rfl rfl ?_ | ((first | refine s_split_d rfl rfl (fun h => ?_) (fun h => ?_) | refine s_split_n rfl rfl (fun h => ?_) (fun h => ?_)) <;> (try (first | contradiction | (exfalso; omega)))) | refine s_split_nb rfl rfl (fun h => ?_) (fun h => ?_) | refine s_split rfl rfl (fun h => ?_) (fun h => ?_))) | refine l_then ?_ | (refine kC ?_; (first | refine c_seq ?_ | refine c_regionN rfl ?_ | refine c_ret ?_ | (refine kCond ?_; (first | refine c_cond_t rfl ?_ | refine c_cond_f rfl ?_ | ((first | refine c_cond_d rfl (fun h => ?_) (fun h => ?_) | refine c_cond_n rfl (fun h => ?_) (fun h => ?_)) <;> (try (first | contradiction | (exfalso; omega)))) | refine c_cond_nb rfl (fun h => ?_) (fun h => ?_) | refine c_cond rfl (fun h => ?_) (fun h => ?_))) | refine c_block ?_ | refine c_skip ?_ | refine c_exit ?_ | refine c_regionQN rfl rfl (by decide +kernel) ?_)) | apply s_stepQ | (refine kQG ?_; (first | refine s_gyesQ rfl rfl rfl ?_ | refine s_gnoQ rfl rfl rfl rfl rfl ?_ | ((first | refine s_splitQ_d rfl rfl (fun h => ?_) (fun h => ?_) | refine s_splitQ_n rfl rfl (fun h => ?_) (fun h => ?_)) <;> (try (first | contradiction | (exfalso; omega)))) | refine s_splitQ_nb rfl rfl (fun h => ?_) (fun h => ?_) | refine s_splitQ rfl rfl (fun h => ?_) (fun h => ?_))) | refine lQ_then ?_ | refine lQ_ends ?_ | (refine kE ?_; (first | refine e_then_r ?_ | refine e_block_r ?_ | refine e_then_n ?_ | refine e_then_x ?_ | refine e_block_n ?_ | refine e_block_x ?_ | refine e_block_y rfl ?_)) | refine l_ends ?_)
    all_goals refine s_leave2 rfl rfl rfl (fun w hw => ⟨?_, hw.below⟩)
    all_goals (unfold orientPoint; rw [if_neg hok])
end Go.Proofs.YtfmjeakcfmmkfaaGreat
/-
  Rules for unsigned numbers, copies, slices; slices.Repeat of one number.
-/
set_option linter.unusedVariables false
namespace Go.Proofs.YtfmjeakcfmmkfaaGreat
open Go Sx
attribute [local irreducible] Exit.then Exit.inBlock bodyPost
theorem u64_in (i : Int) (h : 0 ≤ i ∧ i ≤ 18446744073709551615) : IntKind.u64.wrap i = i := by
  simp [IntKind.wrap, IntKind.bits, IntKind.signed]; omega
section
variable {P : Program} {n : Nat} {lo : SMut} {s : World} {E : SEnv} {L : SHeap} {d : Option Tmp} {ty : TypeId} {pos : String} {after : Array Edge} {g : Option (Nat × Bool)} {x y : Operand} {xt yt : TypeId} {i j : Int}
theorem ov_addU (q : Int) (hx : sval E x = some (.int .u64 i)) (hy : sval E y = some (.int .u64 j)) (h : i + j = q) (hq : 0 ≤ q ∧ q ≤ 18446744073709551615) : SOpV P n lo s E L ⟨d, .binOp .add xt x y yt, ty, pos, after, g⟩ (.int .u64 q) :=
  SOpV.of_run fun a ha w hw => by simp [execOp, eqGuard, binOp, Op.intArith, ha.sval hx, ha.sval hy, h, u64_in _ hq]
theorem ov_mulU (q : Int) (hx : sval E x = some (.int .u64 i)) (hy : sval E y = some (.int .u64 j)) (h : i * j = q) (hq : 0 ≤ q ∧ q ≤ 18446744073709551615) : SOpV P n lo s E L ⟨d, .binOp .mul xt x y yt, ty, pos, after, g⟩ (.int .u64 q) :=
  SOpV.of_run fun a ha w hw => by simp [execOp, eqGuard, binOp, Op.intArith, ha.sval hx, ha.sval hy, h, u64_in _ hq]
theorem ov_shrU {kj : IntKind} (q : Int) (hx : sval E x = some (.int .u64 i)) (hy : sval E y = some (.int kj j)) (hj : 0 ≤ j ∧ j ≤ 62) (hq : i / 2 ^ j.toNat = q) : SOpV P n lo s E L ⟨d, .binOp .shr xt x y yt, ty, pos, after, g⟩ (.int .u64 q) :=
  SOpV.of_run fun a ha w hw => by
    have h0 : ¬ j < 0 := by omega
    have h1 : min j.toNat (IntKind.bits .u64) = j.toNat := by simp [IntKind.bits]; omega
    have h2 : i.fdiv (2 ^ j.toNat) = i / 2 ^ j.toNat := Int.fdiv_eq_ediv_of_nonneg _ (Int.le_of_lt (Int.pow_pos (by omega)))
    simp [execOp, eqGuard, binOp, Op.shift, ha.sval hx, ha.sval hy, h0, h1, h2, hq]
theorem ov_andU (q : Int) (hx : sval E x = some (.int .u64 i)) (hy : sval E y = some (.int .u64 4294967295)) (hi : 0 ≤ i ∧ i ≤ 4294967295) (hq : i = q) : SOpV P n lo s E L ⟨d, .binOp .and xt x y yt, ty, pos, after, g⟩ (.int .u64 q) :=
  SOpV.of_run fun a ha w hw => by
    subst hq
    obtain ⟨m, rfl⟩ := Int.eq_ofNat_of_zero_le hi.1
    have hm : m < 2 ^ 32 := by omega
    have h1 : (BitVec.ofInt 64 (m : Int)).toNat = m := by rw [BitVec.toNat_ofInt]; omega
    have h2 : (BitVec.ofInt 64 4294967295).toNat = 2 ^ 32 - 1 := by decide
    have h3 : ((BitVec.ofInt 64 (m : Int) &&& BitVec.ofInt 64 4294967295).toNat : Int) = m := by
      rw [BitVec.toNat_and, h1, h2, Nat.and_two_pow_sub_one_eq_mod, Nat.mod_eq_of_lt hm]
    have : (execOp a.eval ⟨d, .binOp .and xt x y yt, ty, pos, after, g⟩).run P w = .ok (.value (.int .u64 (IntKind.u64.wrap ((BitVec.ofInt 64 (m : Int) &&& BitVec.ofInt 64 4294967295).toNat : Int)))) w := by
      simp only [execOp, eqGuard, binOp, Op.intBits, ha.sval hx, ha.sval hy]
      rfl
    rw [this, h3, u64_in _ (by omega)]
theorem ov_convU {src dst : TypeId} {sd : TypeDesc} {k : IntKind} [hs : SUnd P src sd] [hd : SUnd P dst (.int .u64)] (hx : sval E x = some (.int k i)) (h : 0 ≤ i ∧ i ≤ 18446744073709551615) :
    SOpV P n lo s E L ⟨d, .convert src dst x, ty, pos, after, g⟩ (.int .u64 i) :=
  SOpV.of_run fun a ha w hw => by
    have e : P.intKind dst = .u64 := by unfold Program.intKind; rw [hd.h]
    have h1 := run_convert_int (P := P) (w := w) src dst k i (by rw [hs.h]; rfl) (by rw [e]; exact hd.h)
    rw [e] at h1
    simp [execOp, ha.sval hx, h1, u64_in i h]
/-- s[:hi] of an own slice -/
theorem ov_sliceHi {t e : TypeId} {a : Option Addr} {m c : Nat} {z : Value} {kk by_ : Nat} {ik : IntKind} [hu : SUnd P t (.slice e)] [hi : SInf P e z kk by_] (hx : sval E x = some (.slice a m c)) (hy : sval E y = some (.int ik j)) (hj : 0 ≤ j ∧ j ≤ c) :
    SOpV P n lo s E L ⟨d, .slice t x none (some y) none, ty, pos, after, g⟩ (.slice a j.toNat c) :=
  SOpV.of_run fun aa ha w hw => by
    cases a with
    | none => simp [execOp, Instr.sliceAt, Instr.slice, Instr.sliceBounds, Instr.sliceBound, asIntOf, ha.sval hx, ha.sval hy, srun_und, srun_sizeOf, hj.1, hj.2]
    | some A =>
      have hA : A.add 0 = A := rfl
      simp [execOp, Instr.sliceAt, Instr.slice, Instr.sliceBounds, Instr.sliceBound, asIntOf, ha.sval hx, ha.sval hy, srun_und, srun_sizeOf, hj.1, hj.2, hA]
/-- s[lo:] of an own slice -/
theorem ov_sliceLo {t e : TypeId} {b o m c : Nat} {z : Value} {by_ : Nat} {ik : IntKind} [hu : SUnd P t (.slice e)] [hi : SInf P e z 1 by_] (hx : sval E x = some (.slice (some ⟨b, o, none⟩) m c)) (hy : sval E y = some (.int ik j)) (hj : 0 ≤ j ∧ j ≤ m ∧ j < c) :
    SOpV P n lo s E L ⟨d, .slice t x (some y) none none, ty, pos, after, g⟩ (.slice (some ⟨b, o + j.toNat, none⟩) (m - j.toNat) (c - j.toNat)) :=
  SOpV.of_run fun aa ha w hw => by
    have hc : ¬ c = j.toNat := by omega
    simp [execOp, Instr.sliceAt, Instr.slice, Instr.sliceBounds, Instr.sliceBound, asIntOf, ha.sval hx, ha.sval hy, srun_und, srun_sizeOf, hj.1, hj.2.1, hc, Addr.add_lit]
end
section
variable {P : Program} {n : Nat} {lo : SMut} {s : World} {ops : Array Oper} {Q : Exit → Act → World → Prop} {E : SEnv} {L : SHeap} {d : Nat} {ty : TypeId} {pos : String} {after : Array Edge} {rest : List Oper}
/-- copy into an own block of one-cell elements -/
theorem s_copyOwn (i : Nat) {dT sT e X : TypeId} {x y : Operand} {b o m c m2 c2 : Nat} {a : Addr} {cur cs : List Value} {T : TypeId} {z : Value} {by_ : Nat} [hu : SUnd P dT (.slice e)] [hi : SInf P e z 1 by_]
    (hx : sval E x = some (.slice (some ⟨b, o, none⟩) m c)) (hy : sval E y = some (.slice (some a) m2 c2)) (hL : getL L i = some [(b, srow cur T)]) (hn : cs.length = Nat.min m2 m) (hfit : o + cs.length ≤ cur.length) (h1 : oneCells cs = true)
    (hsrc : ∀ w, SSt lo s L w → ∀ j v, cs[j]? = some v → w.cell? (a.add j) = some v) (hd : Nat.blt d n = true)
    (kk : WPL P n lo s ops Q rest ((d, .int .i64 cs.length) :: E) (setL L i [(b, srow (cur.take o ++ cs ++ cur.drop (o + cs.length)) T)])) :
    WPL P n lo s ops Q (⟨some d, .call { callee := .builtin .copy, args := #[x, y], argTypes := #[dT, sT] }, X, pos, after, none⟩ :: rest) E L := by
  refine s_eff (E' := fun _ _ => []) (fun w u w' => u = .int .i64 cs.length ∧ w' = w.setRow b (cur.take o ++ cs ++ cur.drop (o + cs.length)).toArray) (fun aa w ha hw => ⟨_, _, ?_, rfl, rfl⟩) hd ?_
  · obtain ⟨ii, i1, i2, i3, i4⟩ := hi.out
    have hblk := (hw.blocks b _ (getL_flat hL (List.mem_singleton.2 rfl))).2
    have h := run_copy_row (P := P) w dT sT X e b o m c a m2 c2 cur.toArray T cs hu.h (by rw [i1]; simp [i3]) hblk hn (hsrc w hw) (by simpa using hfit) (oneCells_mem h1)
    simp [execOp, resolve, invoke, builtin, ha.sval hx, ha.sval hy, h, goInt]
  · rintro w u w' hw ⟨rfl, rfl⟩ aa ha
    exact (by unfold WPL at kk; exact kk aa _ ha (hw.srow hL))
end
theorem c_mul64 (q : Int) (w : World) (h : 0 ≤ q ∧ q ≤ 1000000) : SYields Tryz.prog 222 #[.int .u64 1, .int .u64 q] (.tuple #[.int .u64 0, .int .u64 q]) w := by
  (first | apply SYields.mk | apply SYieldsF.mk | skip); refine s_enter Tryz.func222 rfl Tryz.ntmps222 rfl ?_
  repeat' (first | exact rfl | (apply kO; (first | exact ov_pure rfl | (apply kOBin; (first | exact aBin | exact (ov_andU 1 rfl rfl (by omega) (by omega)) | exact (ov_andU q rfl rfl (by omega) (by omega)) | exact (ov_andU 0 rfl rfl (by omega) (by omega)) | exact (ov_shrU 0 rfl rfl (by omega) (by simp; try omega)))) | (apply kOCall; (first | (apply kCallB; (first | exact aBlt | exact aLenR)))) | (apply kOLoad; (first | exact aLdF | exact aLdR)) | exact ov_fieldAddr rfl | (apply kOIdx; (first | exact aIdx)) | exact aRest | exact (ov_mulU q rfl rfl (by omega) (by omega)) | exact (ov_mulU 0 rfl rfl (by omega) (by omega)) | exact (ov_addU 0 rfl rfl (by omega) (by omega)) | exact aNew | exact (ov_field1 (ft := 31) rfl rfl rfl rfl))) | (refine kN ?_; (first | (refine kStore ?_; (first | refine s_store1 _ rfl rfl gpA rfl (by rfl) ?_ | refine s_storeS _ rfl rfl gpA rfl rfl (by rfl) ?_ | refine s_storeS _ rfl rfl gpA rfl (ones_img oiA) (by rfl) ?_)) | refine s_boxS rfl rfl (fun b hb => ?_) | refine s_allocS rfl (fun b hb => ?_) | refine s_box1 rfl rfl rfl (fun b hb => ?_) | refine s_alloc1 rfl rfl (fun b hb => ?_) | refine s_buildSlice0 rfl (fun b hb => ?_) | refine s_buildSlice rfl rfl rfl rfl rfl (fun b hb => ?_) | apply s_step)) | (refine kG ?_; (first | refine s_gyes rfl rfl rfl ?_ | refine s_gno rfl rfl rfl rfl rfl ?_ | ((first | refine s_split_d rfl rfl (fun h => ?_) (fun h => ?_) | refine s_split_n rfl rfl (fun h => ?_) (fun h => ?_)) <;> (try (first | contradiction | (exfalso; omega)))) | refine s_split_nb rfl rfl (fun h => ?_) (fun h => ?_) | refine s_split rfl rfl (fun h => ?_) (fun h => ?_))) | refine l_then ?_ | (refine kC ?_; (first | refine c_seq ?_ | refine c_regionN rfl ?_ | refine c_ret ?_ | (refine kCond ?_; (first | refine c_cond_t rfl ?_ | refine c_cond_f rfl ?_ | ((first | refine c_cond_d rfl (fun h => ?_) (fun h => ?_) | refine c_cond_n rfl (fun h => ?_) (fun h => ?_)) <;> (try (first | contradiction | (exfalso; omega)))) | refine c_cond_nb rfl (fun h => ?_) (fun h => ?_) | refine c_cond rfl (fun h => ?_) (fun h => ?_))) | refine c_block ?_ | refine c_skip ?_ | refine c_exit ?_ | refine c_regionQN rfl rfl (by decide +kernel) ?_)) | apply s_stepQ | (refine kQG ?_; (first | refine s_gyesQ rfl rfl rfl ?_ | refine s_gnoQ rfl rfl rfl rfl rfl ?_ | ((first | refine s_splitQ_d rfl rfl (fun h => ?_) (fun h => ?_) | refine s_splitQ_n rfl rfl (fun h => ?_) (fun h => ?_)) <;> (try (first | contradiction | (exfalso; omega)))) | refine s_splitQ_nb rfl rfl (fun h => ?_) (fun h => ?_) | refine s_splitQ rfl rfl (fun h => ?_) (fun h => ?_))) | refine lQ_then ?_ | refine lQ_ends ?_ | (refine kE ?_; (first | refine e_then_r ?_ | refine e_block_r ?_ | refine e_then_n ?_ | refine e_then_x ?_ | refine e_block_n ?_ | refine e_block_x ?_ | refine e_block_y rfl ?_)) | refine l_ends ?_)
  all_goals exact s_leave2 rfl rfl rfl (fun w hw => ⟨rfl, hw.below⟩)
theorem c_mul (q : Int) (w : World) (h : 0 ≤ q ∧ q ≤ 1000000) : SYields Tryz.prog 197 #[.int .u64 1, .int .u64 q] (.tuple #[.int .u64 0, .int .u64 q]) w := by
  (first | apply SYields.mk | apply SYieldsF.mk | skip); refine s_enter Tryz.func197 rfl Tryz.ntmps197 rfl ?_
  repeat' (first | exact rfl | (apply kO; (first | exact ov_pure rfl | (apply kOBin; (first | exact aBin)) | (apply kOCall; (first | (apply kCallF; (first | exact (ov_call rfl (fun w hw => c_mul64 _ w (by omega))))) | (apply kCallB; (first | exact aBlt | exact aLenR)))) | (apply kOLoad; (first | exact aLdF | exact aLdR)) | exact ov_fieldAddr rfl | (apply kOIdx; (first | exact aIdx)) | exact aRest | exact aNew | exact (ov_field1 (ft := 31) rfl rfl rfl rfl))) | (refine kN ?_; (first | (refine kStore ?_; (first | refine s_store1 _ rfl rfl gpA rfl (by rfl) ?_ | refine s_storeS _ rfl rfl gpA rfl rfl (by rfl) ?_ | refine s_storeS _ rfl rfl gpA rfl (ones_img oiA) (by rfl) ?_)) | refine s_boxS rfl rfl (fun b hb => ?_) | refine s_allocS rfl (fun b hb => ?_) | refine s_box1 rfl rfl rfl (fun b hb => ?_) | refine s_alloc1 rfl rfl (fun b hb => ?_) | refine s_buildSlice0 rfl (fun b hb => ?_) | refine s_buildSlice rfl rfl rfl rfl rfl (fun b hb => ?_) | apply s_step)) | (refine kG ?_; (first | refine s_gyes rfl rfl rfl ?_ | refine s_gno rfl rfl rfl rfl rfl ?_ | ((first | refine s_split_d rfl rfl (fun h => ?_) (fun h => ?_) | refine s_split_n rfl rfl (fun h => ?_) (fun h => ?_)) <;> (try (first | contradiction | (exfalso; omega)))) | refine s_split_nb rfl rfl (fun h => ?_) (fun h => ?_) | refine s_split rfl rfl (fun h => ?_) (fun h => ?_))) | refine l_then ?_ | (refine kC ?_; (first | refine c_seq ?_ | refine c_regionN rfl ?_ | refine c_ret ?_ | (refine kCond ?_; (first | refine c_cond_t rfl ?_ | refine c_cond_f rfl ?_ | ((first | refine c_cond_d rfl (fun h => ?_) (fun h => ?_) | refine c_cond_n rfl (fun h => ?_) (fun h => ?_)) <;> (try (first | contradiction | (exfalso; omega)))) | refine c_cond_nb rfl (fun h => ?_) (fun h => ?_) | refine c_cond rfl (fun h => ?_) (fun h => ?_))) | refine c_block ?_ | refine c_skip ?_ | refine c_exit ?_ | refine c_regionQN rfl rfl (by decide +kernel) ?_)) | apply s_stepQ | (refine kQG ?_; (first | refine s_gyesQ rfl rfl rfl ?_ | refine s_gnoQ rfl rfl rfl rfl rfl ?_ | ((first | refine s_splitQ_d rfl rfl (fun h => ?_) (fun h => ?_) | refine s_splitQ_n rfl rfl (fun h => ?_) (fun h => ?_)) <;> (try (first | contradiction | (exfalso; omega)))) | refine s_splitQ_nb rfl rfl (fun h => ?_) (fun h => ?_) | refine s_splitQ rfl rfl (fun h => ?_) (fun h => ?_))) | refine lQ_then ?_ | refine lQ_ends ?_ | (refine kE ?_; (first | refine e_then_r ?_ | refine e_block_r ?_ | refine e_then_n ?_ | refine e_then_x ?_ | refine e_block_n ?_ | refine e_block_x ?_ | refine e_block_y rfl ?_)) | refine l_ends ?_)
  all_goals exact s_leave2 rfl rfl rfl (fun w hw => ⟨rfl, hw.below⟩)
def fillP (p : Int) (n j : Nat) : List Int := List.replicate j p ++ List.replicate (n - j) 0
theorem fillP_length (p : Int) {n j : Nat} (h : j ≤ n) : (fillP p n j).length = n := by simp [fillP]; omega
theorem fillP_copy (p : Int) {n j m : Nat} (hj : j + m ≤ n) : (ivals (fillP p n j)).take j ++ ivals (List.replicate m p) ++ (ivals (fillP p n j)).drop (j + (ivals (List.replicate m p)).length) = ivals (fillP p n (j + m)) := by
  have e1 : (ivals (fillP p n j)).take j = ivals (List.replicate j p) := by
    simp [fillP, ivals]
  have e2 : (ivals (fillP p n j)).drop (j + m) = ivals (List.replicate (n - (j + m)) 0) := by
    simp only [fillP, ivals, List.map_append, List.map_replicate]
    rw [List.drop_append, List.drop_of_length_le (by simp), List.nil_append, List.length_replicate, List.drop_replicate]
    congr 1; omega
  rw [ivals_length, List.length_replicate, e1, e2]
  simp [fillP, ivals, ← List.append_assoc, List.replicate_append_replicate]
theorem fillP_one (p : Int) {n : Nat} : (List.replicate n (Value.int .i64 0)).take 0 ++ [Value.int .i64 p] ++ (List.replicate n (Value.int .i64 0)).drop (0 + [Value.int .i64 p].length) = ivals (fillP p n 1) := by
  simp [fillP, ivals]
theorem fillP_src (p : Int) {n j k m : Nat} {u : Value} (h : (ivals (List.replicate (min j k) p))[m]? = some u) : (ivals (fillP p n j))[m]? = some u := by
  simp only [ivals, fillP, List.map_append, List.map_replicate, List.getElem?_replicate] at h ⊢
  split at h
  · rw [List.getElem?_append_left (by simp; omega), List.getElem?_replicate, if_pos (by omega)]; exact h
  · cases h
theorem fillP_all (p : Int) (n : Nat) : fillP p n n = List.replicate n p := by simp [fillP]
theorem c_repeat (v : Value) (p q : Int) (w : World) (hv : RInts w v [p]) (hq : 1 ≤ q ∧ q ≤ 100000) : SYieldsF Tryz.prog 143 #[v, .int .i64 q] (fun u H => OInts 3 u (List.replicate q.toNat p) H) w := by
  have hv' := hv.form
  obtain ⟨a, c, rfl⟩ := hv'
  obtain ⟨b0, o0, rfl⟩ : ∃ b o, a = some ⟨b, o, none⟩ := by
    obtain ⟨a', c', he, hf⟩ := RRow.form hv
    obtain ⟨b, o, rfl⟩ := hf (by simp)
    cases he; exact ⟨b, o, rfl⟩
  have hs1 : ([p].length : Nat) = 1 := rfl
  rw [hs1]
  have hf0 := fillP_copy p (n := q.toNat) (j := 0) (m := 1) (by omega)
  (first | apply SYields.mk | apply SYieldsF.mk | skip); refine s_enter Tryz.func143 rfl Tryz.ntmps143 rfl ?_
  repeat' (first | exact rfl | (apply kO; (first | exact ov_pure rfl | (apply kOBin; (first | exact aBin | exact (ov_add rfl rfl (by rw [ivals_length, List.length_replicate]; omega)))) | (apply kOCall; (first | (apply kCallF; (first | exact (ov_call rfl (fun w hw => c_mul _ w (by omega))))) | (apply kCallB; (first | exact aBlt | exact aLenR)))) | (apply kOLoad; (first | exact aLdF | exact aLdR)) | exact ov_fieldAddr rfl | (apply kOIdx; (first | exact aIdx)) | exact aRest | exact (ov_convU rfl (by omega)) | exact (ov_gtr rfl rfl) | (apply kSlice; exact (ov_sliceHi rfl rfl (by omega))) | (apply kSlice; exact (ov_sliceLo rfl rfl (by omega))) | exact aNew | exact (ov_field1 (ft := 31) rfl rfl rfl rfl))) | (refine kN ?_; (first | (refine kCall ?_; (first | (refine s_copyOwn 0 (cs := [.int .i64 p]) rfl rfl rfl (by show 1 = min 1 q.toNat; omega) (by rw [List.length_replicate]; show 0 + 1 ≤ q.toNat; omega) rfl (fun w hw j u hu => RInts.src (hv.keep (hw.cells rfl)) j u (by simpa [ivals] using hu)) rfl ?_) | (refine s_copyOwn 0 (cs := ivals (List.replicate (min j (q.toNat - j)) p)) rfl rfl rfl (by rw [ivals_length, List.length_replicate, Int.toNat_natCast] <;> first | done | rfl) (by rw [ivals_length, ivals_length, List.length_replicate, fillP_length _ (by omega)]; omega) (oneCells_ivals _) (fun w hw m u hu => by rw [Addr.add_lit, Nat.zero_add]; exact hw.captured (i := 0) rfl m u (fillP_src p hu)) rfl ?_) | apply s_step)) | (refine kStore ?_; (first | refine s_store1 _ rfl rfl gpA rfl (by rfl) ?_ | refine s_storeS _ rfl rfl gpA rfl rfl (by rfl) ?_ | refine s_storeS _ rfl rfl gpA rfl (ones_img oiA) (by rfl) ?_)) | refine s_boxS rfl rfl (fun b hb => ?_) | refine s_allocS rfl (fun b hb => ?_) | refine s_box1 rfl rfl rfl (fun b hb => ?_) | refine s_alloc1 rfl rfl (fun b hb => ?_) | (refine kWMake ?_; (refine s_make1 rfl rfl rfl ⟨by omega, by omega, by omega⟩ (by omega) rfl (fun b hb => ?_))) | refine s_buildSlice0 rfl (fun b hb => ?_) | refine s_buildSlice rfl rfl rfl rfl rfl (fun b hb => ?_) | apply s_step)) | (refine kG ?_; (first | refine s_gyes rfl rfl rfl ?_ | refine s_gno rfl rfl rfl rfl rfl ?_ | ((first | refine s_split_d rfl rfl (fun h => ?_) (fun h => ?_) | refine s_split_n rfl rfl (fun h => ?_) (fun h => ?_)) <;> (try (first | contradiction | (exfalso; omega)))) | refine s_split_nb rfl rfl (fun h => ?_) (fun h => ?_) | refine s_split rfl rfl (fun h => ?_) (fun h => ?_))) | (refine kS ?_; (first | refine h_exec rfl ?_ | refine h_take_nil rfl rfl rfl ?_ | refine h_take_pick rfl rfl rfl ?_ | refine h_nil ?_ | refine h_alt ?_ ?_ | apply h_take)) | (refine kBack ?_; (first | refine h_back_last rfl ?_ | refine h_backN rfl subA ?_)) | refine l_then ?_ | (refine kC ?_; (first | (refine kReg 9 ?_; refine c_regionSubN (SPlan.take 0 (SPlan.take 1 (SPlan.take 2 (SPlan.take 3 (SPlan.take 4 (SPlan.take 5 (SPlan.take 6 (SPlan.run 7 (SPlan.take 8 (SPlan.take 9 SPlan.done)))))))))) none [false] rfl rfl rfl (by decide +kernel) ?_) | (refine c_loopV (ι := Nat) (fun j => 1 ≤ j ∧ j ≤ q.toNat) (fun j => [(8, .int .i64 (j : Int))]) (fun j => [[(b, srow (ivals (fillP p q.toNat j)) 3)]]) (fun j => q.toNat - j) 1 (by omega) rfl (fun _ => rfl) ⟨rfl, trivial⟩ (fun w hw => by have e := fillP_one p (n := q.toNat); rw [← e]; exact hw) (fun j hj => ?_)) | refine c_seq ?_ | refine c_regionN rfl ?_ | refine c_ret ?_ | (refine kCond ?_; (first | refine c_cond_t rfl ?_ | refine c_cond_f rfl ?_ | ((first | refine c_cond_d rfl (fun h => ?_) (fun h => ?_) | refine c_cond_n rfl (fun h => ?_) (fun h => ?_)) <;> (try (first | contradiction | (exfalso; omega)))) | refine c_cond_nb rfl (fun h => ?_) (fun h => ?_) | refine c_cond rfl (fun h => ?_) (fun h => ?_))) | refine c_block ?_ | refine c_skip ?_ | refine c_exit ?_ | refine c_regionQN rfl rfl (by decide +kernel) ?_)) | apply s_stepQ | (refine kQG ?_; (first | refine s_gyesQ rfl rfl rfl ?_ | refine s_gnoQ rfl rfl rfl rfl rfl ?_ | ((first | refine s_splitQ_d rfl rfl (fun h => ?_) (fun h => ?_) | refine s_splitQ_n rfl rfl (fun h => ?_) (fun h => ?_)) <;> (try (first | contradiction | (exfalso; omega)))) | refine s_splitQ_nb rfl rfl (fun h => ?_) (fun h => ?_) | refine s_splitQ rfl rfl (fun h => ?_) (fun h => ?_))) | refine lQ_then ?_ | refine lQ_ends ?_ | (refine kE ?_; (first | refine e_then_r ?_ | refine e_block_r ?_ | refine e_then_n ?_ | refine e_then_x ?_ | refine e_block_n ?_ | refine e_block_x ?_ | refine e_block_y rfl ?_)) | refine l_ends ?_)
  · refine e_round (j + min j (q.toNat - j)) ⟨by omega, by omega⟩ ⟨slook_to rfl (vint_to (by rw [ivals_length, List.length_replicate]; push_cast; omega)), (by repeat' first | exact trivial | refine ⟨rfl, ?_⟩)⟩ (fun w hw => ?_) (by omega)
    rw [show 0 + (j : Int).toNat = j by omega, fillP_copy p (by omega)] at hw
    exact hw
  · obtain rfl : j = q.toNat := by omega
    rw [fillP_all]
    refine s_leave1 rfl rfl (fun w hw => ⟨_, _, rfl, ?_, hw.toFresh (i := 0) rfl⟩)
    have := OInts.whole 3 b (List.replicate q.toNat p) (by rw [List.length_replicate]; unfold maxLen; omega)
    rw [List.length_replicate] at this
    exact this
end Go.Proofs.YtfmjeakcfmmkfaaGreat
/-
  The plain functions, continued: regions. A set of points of the screen, its rectangles, its area. No program in sight.
-/
set_option linter.unusedVariables false
namespace Sx

/-- which points belong to a set: row, column -/
abbrev Grid := Nat → Nat → Bool
def Grid.eqv (g h : Grid) : Prop := ∀ y x, y < 16 → x < 16 → g y x = h y x
theorem Grid.eqv.refl (g : Grid) : g.eqv g := fun _ _ _ _ => rfl
theorem Grid.eqv.symm {g h : Grid} (e : g.eqv h) : h.eqv g := fun y x hy hx => (e y x hy hx).symm
theorem Grid.eqv.trans {g h k : Grid} (e : g.eqv h) (f : h.eqv k) : g.eqv k := fun y x hy hx => (e y x hy hx).trans (f y x hy hx)
/-- how many places from x on, below 16, are true -/
def rnlF (f : Nat → Bool) : Nat → Nat → Nat
  | 0, _ => 0
  | k + 1, x => if x < 16 ∧ f x = true then rnlF f k (x + 1) + 1 else 0
def rnl (f : Nat → Bool) (x : Nat) : Nat := rnlF f (16 - x) x
theorem rnlF_is (f : Nat → Bool) : ∀ (k x : Nat), 16 - x ≤ k → (∀ i, x ≤ i → i < x + rnlF f k x → i < 16 ∧ f i = true) ∧ ¬ (x + rnlF f k x < 16 ∧ f (x + rnlF f k x) = true)
  | 0, x, hk => ⟨fun i h1 h2 => by simp only [rnlF] at h2; omega, fun h => by simp only [rnlF] at h; omega⟩
  | k + 1, x, hk => by
    unfold rnlF
    by_cases h : x < 16 ∧ f x = true
    · rw [if_pos h]
      have ih := rnlF_is f k (x + 1) (by omega)
      refine ⟨fun i h1 h2 => ?_, fun h2 => ih.2 ?_⟩
      · by_cases e : i = x
        · subst e; exact h
        · exact ih.1 i (by omega) (by omega)
      · rw [show x + 1 + rnlF f k (x + 1) = x + (rnlF f k (x + 1) + 1) by omega]; exact h2
    · rw [if_neg h]
      exact ⟨fun i h1 h2 => by omega, h⟩
theorem rnl_in {f : Nat → Bool} {x i : Nat} (h1 : x ≤ i) (h2 : i < x + rnl f x) : i < 16 ∧ f i = true := (rnlF_is f _ x (Nat.le_refl _)).1 i h1 h2
theorem rnl_end {f : Nat → Bool} {x : Nat} : ¬ (x + rnl f x < 16 ∧ f (x + rnl f x) = true) := (rnlF_is f _ x (Nat.le_refl _)).2
theorem rnl_eq {f : Nat → Bool} {x w : Nat} (h1 : ∀ i, x ≤ i → i < x + w → i < 16 ∧ f i = true) (h2 : ¬ (x + w < 16 ∧ f (x + w) = true)) : rnl f x = w := by
  rcases Nat.lt_trichotomy (rnl f x) w with h | h | h
  · exact absurd (h1 (x + rnl f x) (by omega) (by omega)) rnl_end
  · exact h
  · exact absurd (rnl_in (f := f) (x := x) (i := x + w) (by omega) (by omega)) h2
theorem rnl_le {f : Nat → Bool} {x : Nat} (hx : x ≤ 16) : x + rnl f x ≤ 16 := by
  by_cases h : rnl f x = 0
  · omega
  · have := (rnl_in (f := f) (x := x) (i := x + rnl f x - 1) (by omega) (by omega)).1; omega
theorem rnl_congr {f g : Nat → Bool} {x : Nat} (h : ∀ i, i < 16 → f i = g i) : rnl f x = rnl g x :=
  rnl_eq (fun i h1 h2 => by have := rnl_in h1 h2; exact ⟨this.1, by rw [h i this.1]; exact this.2⟩) (fun hh => rnl_end (f := g) (x := x) ⟨hh.1, by rw [← h _ hh.1]; exact hh.2⟩)
/-- the rectangles of a row, from x on -/
def rowF (f : Nat → Bool) (y h : Int) : Nat → Nat → List DRect
  | 0, _ => []
  | k + 1, x => if x < 16 then (if rnl f x = 0 then [] else [⟨x, y, rnl f x, h⟩]) ++ rowF f y h k (x + rnl f x + 1) else []
def rowR (f : Nat → Bool) (y h : Int) (x : Nat) : List DRect := rowF f y h (16 - x) x
theorem rowF_fuel (f : Nat → Bool) (y h : Int) : ∀ (k j x : Nat), 16 - x ≤ k → 16 - x ≤ j → rowF f y h k x = rowF f y h j x
  | 0, 0, x, _, _ => rfl
  | 0, j + 1, x, hk, _ => by unfold rowF; rw [if_neg (by omega)]
  | k + 1, 0, x, _, hj => by unfold rowF; rw [if_neg (by omega)]
  | k + 1, j + 1, x, hk, hj => by
    unfold rowF
    by_cases hx : x < 16
    · rw [if_pos hx, if_pos hx, rowF_fuel f y h k j _ (by omega) (by omega)]
    · rw [if_neg hx, if_neg hx]
theorem rowR_done {f : Nat → Bool} {y h : Int} {x : Nat} (hx : 16 ≤ x) : rowR f y h x = [] := by
  unfold rowR; rw [show 16 - x = 0 by omega]; rfl
theorem rowR_step {f : Nat → Bool} {y h : Int} {x : Nat} (hx : x < 16) : rowR f y h x = (if rnl f x = 0 then [] else [⟨x, y, rnl f x, h⟩]) ++ rowR f y h (x + rnl f x + 1) := by
  unfold rowR
  rw [show 16 - x = (15 - x) + 1 by omega]
  conv => lhs; unfold rowF
  rw [if_pos hx, rowF_fuel f y h (15 - x) (16 - (x + rnl f x + 1)) _ (by omega) (by omega)]
theorem row_ind {P : Nat → Prop} (h1 : ∀ x, 16 ≤ x → P x) (h2 : ∀ x, x < 16 → (∀ z, x < z → P z) → P x) : ∀ x, P x := by
  have key : ∀ k x, 16 - x ≤ k → P x := by
    intro k
    induction k with
    | zero => intro x h; exact h1 x (by omega)
    | succ k ih =>
      intro x h
      by_cases hx : x < 16
      · exact h2 x hx (fun z hz => ih z (by omega))
      · exact h1 x (by omega)
  exact fun x => key (16 - x) x (Nat.le_refl _)
theorem rowR_congr {f g : Nat → Bool} {y h : Int} (e : ∀ i, i < 16 → f i = g i) : ∀ x, rowR f y h x = rowR g y h x :=
  row_ind (fun x hx => by rw [rowR_done hx, rowR_done hx]) (fun x hx ih => by rw [rowR_step hx, rowR_step hx, rnl_congr (f := f) (g := g) e, ih _ (by omega)])
/-- rows z and y have the same points -/
def sameRow (g : Grid) (y z : Nat) : Bool := (List.range 16).all (fun x => g z x == g y x)
theorem sameRow_iff {g : Grid} {y z : Nat} : sameRow g y z = true ↔ ∀ x, x < 16 → g z x = g y x := by simp [sameRow]
/-- how many rows from y on are like it -/
def hgt (g : Grid) (y : Nat) : Nat := 1 + rnl (sameRow g y) (y + 1)
def canonF (g : Grid) : Nat → Nat → List DRect
  | 0, _ => []
  | k + 1, y => if y < 16 then rowR (g y) y (hgt g y) 0 ++ canonF g k (y + hgt g y) else []
def canonR (g : Grid) (y : Nat) : List DRect := canonF g (16 - y) y
/-- the canonical form of a set -/
def canon (g : Grid) : List DRect := canonR g 0
theorem canonF_fuel (g : Grid) : ∀ (k j y : Nat), 16 - y ≤ k → 16 - y ≤ j → canonF g k y = canonF g j y
  | 0, 0, x, _, _ => rfl
  | 0, j + 1, y, hk, _ => by unfold canonF; rw [if_neg (by omega)]
  | k + 1, 0, y, _, hj => by unfold canonF; rw [if_neg (by omega)]
  | k + 1, j + 1, y, hk, hj => by
    have := (show 1 ≤ hgt g y by unfold hgt; omega)
    unfold canonF
    by_cases hy : y < 16
    · rw [if_pos hy, if_pos hy, canonF_fuel g k j _ (by omega) (by omega)]
    · rw [if_neg hy, if_neg hy]
theorem hgt_pos (g : Grid) (y : Nat) : 1 ≤ hgt g y := by unfold hgt; omega
theorem hgt_le {g : Grid} {y : Nat} (hy : y < 16) : y + hgt g y ≤ 16 := by
  have := rnl_le (f := sameRow g y) (x := y + 1) (by omega); unfold hgt; omega
theorem hgt_in {g : Grid} {y z x : Nat} (h1 : y ≤ z) (h2 : z < y + hgt g y) (hx : x < 16) : g z x = g y x := by
  by_cases e : z = y
  · subst e; rfl
  · exact sameRow_iff.1 (rnl_in (f := sameRow g y) (x := y + 1) (i := z) (by omega) (by unfold hgt at h2; omega)).2 x hx
theorem canonR_done {g : Grid} {y : Nat} (hy : 16 ≤ y) : canonR g y = [] := by unfold canonR; rw [show 16 - y = 0 by omega]; rfl
theorem canonR_step {g : Grid} {y : Nat} (hy : y < 16) : canonR g y = rowR (g y) y (hgt g y) 0 ++ canonR g (y + hgt g y) := by
  have := hgt_pos g y
  unfold canonR
  rw [show 16 - y = (15 - y) + 1 by omega]
  conv => lhs; unfold canonF
  rw [if_pos hy, canonF_fuel g (15 - y) (16 - (y + hgt g y)) _ (by omega) (by omega)]
theorem sameRow_congr {g k : Grid} (e : g.eqv k) {y z : Nat} (hy : y < 16) (hz : z < 16) : sameRow g y z = sameRow k y z := by
  rw [Bool.eq_iff_iff, sameRow_iff, sameRow_iff]
  exact ⟨fun h x hx => by rw [← e z x hz hx, ← e y x hy hx]; exact h x hx, fun h x hx => by rw [e z x hz hx, e y x hy hx]; exact h x hx⟩
theorem hgt_congr {g k : Grid} (e : g.eqv k) {y : Nat} (hy : y < 16) : hgt g y = hgt k y := by
  unfold hgt; rw [rnl_congr (fun i hi => sameRow_congr e hy hi)]
theorem canonR_congr {g k : Grid} (e : g.eqv k) : ∀ y, canonR g y = canonR k y :=
  row_ind (fun y hy => by rw [canonR_done hy, canonR_done hy]) (fun y hy ih => by
    have := hgt_pos g y
    rw [canonR_step hy, canonR_step hy, hgt_congr e hy, rowR_congr (fun i hi => e y i hy hi)]
    rw [hgt_congr e hy] at this
    rw [ih _ (by omega)])
theorem canon_congr {g k : Grid} (e : g.eqv k) : canon g = canon k := canonR_congr e 0

/-! the points of rectangles -/
def DRect.holds (r : DRect) (y x : Nat) : Bool := decide (r.has x y)
def points (l : List DRect) : Grid := fun y x => l.any (fun r => r.holds y x)
theorem points_nil (y x : Nat) : points [] y x = false := rfl
theorem points_cons (r : DRect) (l : List DRect) (y x : Nat) : points (r :: l) y x = (r.holds y x || points l y x) := by simp [points]
theorem points_append (k l : List DRect) (y x : Nat) : points (k ++ l) y x = (points k y x || points l y x) := by simp [points]
/-- a rectangle of the screen with points -/
def DRect.inScreen (r : DRect) : Prop := 0 ≤ r.X ∧ 0 ≤ r.Y ∧ 1 ≤ r.W ∧ 1 ≤ r.H ∧ r.X + r.W ≤ 16 ∧ r.Y + r.H ≤ 16
theorem DRect.inScreen.ok {r : DRect} (h : r.inScreen) : r.ok := by unfold DRect.inScreen at h; unfold DRect.ok; omega
theorem rowR_in {f : Nat → Bool} {y h : Int} (hy : 0 ≤ y) (hh : 1 ≤ h) (hs : y + h ≤ 16) : ∀ x, ∀ r ∈ rowR f y h x, r.inScreen ∧ r.Y = y ∧ r.H = h ∧ (x : Int) ≤ r.X :=
  row_ind (fun x hx r hr => by rw [rowR_done hx] at hr; cases hr) (fun x hx ih r hr => by
    rw [rowR_step hx, List.mem_append] at hr
    have hle := rnl_le (f := f) (x := x) (by omega)
    rcases hr with hr | hr
    · split at hr
      · cases hr
      · rw [List.mem_singleton] at hr
        subst hr
        unfold DRect.inScreen; dsimp only; omega
    · have := ih _ (by omega) r hr
      exact ⟨this.1, this.2.1, this.2.2.1, by omega⟩)
theorem canonR_in {g : Grid} : ∀ y, ∀ r ∈ canonR g y, r.inScreen ∧ (y : Int) ≤ r.Y :=
  row_ind (fun y hy r hr => by rw [canonR_done hy] at hr; cases hr) (fun y hy ih r hr => by
    have h1 := hgt_pos g y
    have h2 := hgt_le (g := g) hy
    rw [canonR_step hy, List.mem_append] at hr
    rcases hr with hr | hr
    · have := rowR_in (by omega) (by omega) (by omega) 0 r hr
      exact ⟨this.1, by omega⟩
    · have := ih _ (by omega) r hr
      exact ⟨this.1, by omega⟩)
theorem canon_in {g : Grid} {r : DRect} (h : r ∈ canon g) : r.inScreen := (canonR_in 0 r h).1
theorem rowR_points {f : Nat → Bool} {y h : Int} (hy : 0 ≤ y) (hh : 1 ≤ h) (hs : y + h ≤ 16) : ∀ x, ∀ b a : Nat, points (rowR f y h x) b a = decide (x ≤ a ∧ a < 16 ∧ f a = true ∧ y ≤ b ∧ (b : Int) < y + h) :=
  row_ind (fun x hx b a => by rw [rowR_done hx, points_nil]; exact (decide_eq_false (by omega)).symm) (fun x hx ih b a => by
    have hle := rnl_le (f := f) (x := x) (by omega)
    have hend := rnl_end (f := f) (x := x)
    have hin := fun i => rnl_in (f := f) (x := x) (i := i)
    rw [rowR_step hx, points_append, ih _ (by omega)]
    have e1 : points (if rnl f x = 0 then [] else [⟨x, y, rnl f x, h⟩]) b a = decide (x ≤ a ∧ a < x + rnl f x ∧ y ≤ b ∧ (b : Int) < y + h) := by
      split
      · rw [points_nil]; exact (decide_eq_false (by omega)).symm
      · rw [points_cons, points_nil, Bool.or_false]
        unfold DRect.holds DRect.has DRect.ok
        dsimp only
        exact decide_eq_decide.2 (by omega)
    rw [e1, ← Bool.decide_or]
    refine decide_eq_decide.2 ⟨fun hh => ?_, fun hh => ?_⟩
    · rcases hh with hh | hh
      · have := hin a hh.1 hh.2.1; exact ⟨hh.1, this.1, this.2, hh.2.2.1, hh.2.2.2⟩
      · exact ⟨by omega, hh.2.1, hh.2.2.1, hh.2.2.2.1, hh.2.2.2.2⟩
    · obtain ⟨h1, h2, h3, h4, h5⟩ := hh
      by_cases e : a < x + rnl f x
      · exact .inl ⟨h1, e, h4, h5⟩
      · by_cases e2 : a = x + rnl f x
        · subst e2; exact absurd ⟨h2, h3⟩ hend
        · exact .inr ⟨by omega, h2, h3, h4, h5⟩)
theorem canonR_points {g : Grid} : ∀ y, ∀ b a : Nat, b < 16 → a < 16 → points (canonR g y) b a = (decide (y ≤ b) && g b a) :=
  row_ind (fun y hy b a hb ha => by rw [canonR_done hy, points_nil, decide_eq_false (by omega), Bool.false_and]) (fun y hy ih b a hb ha => by
    have h1 := hgt_pos g y
    have h2 := hgt_le (g := g) hy
    rw [canonR_step hy, points_append, ih _ (by omega) b a hb ha, rowR_points (by omega) (by omega) (by omega)]
    by_cases e1 : y ≤ b
    · by_cases e2 : b < y + hgt g y
      · rw [hgt_in e1 e2 ha]
        rw [decide_eq_false (show ¬ (y + hgt g y ≤ b) by omega), Bool.false_and, Bool.or_false, decide_eq_true e1, Bool.true_and]
        generalize g y a = q
        cases q
        · exact decide_eq_false (by simp)
        · exact decide_eq_true ⟨by omega, ha, rfl, by omega, by omega⟩
      · rw [decide_eq_false (by omega), Bool.false_or, decide_eq_true e1, decide_eq_true (show y + hgt g y ≤ b by omega)]
    · rw [decide_eq_false (by omega), Bool.false_or, decide_eq_false e1, decide_eq_false (show ¬ (y + hgt g y ≤ b) by omega)])
theorem points_canon (g : Grid) : (points (canon g)).eqv g := fun y x hy hx => by
  rw [canon, canonR_points 0 y x hy hx, decide_eq_true (Nat.zero_le _), Bool.true_and]
theorem canon_points (g : Grid) : canon (points (canon g)) = canon g := canon_congr (points_canon g)
/-- a region in canonical form -/
def regionOk (l : List DRect) : Prop := canon (points l) = l
instance (l : List DRect) : Decidable (regionOk l) := by unfold regionOk; infer_instance
theorem regionOk_canon (g : Grid) : regionOk (canon g) := canon_points g
theorem regionOk.inScreen {l : List DRect} (h : regionOk l) {r : DRect} (hr : r ∈ l) : r.inScreen := canon_in (g := points l) (by unfold regionOk at h; rwa [h])

/-! how many rectangles, how many points -/
theorem rowR_length {f : Nat → Bool} {y h : Int} : ∀ x, (rowR f y h x).length ≤ (17 - x) / 2 :=
  row_ind (fun x hx => by rw [rowR_done hx]; simp) (fun x hx ih => by
    rw [rowR_step hx, List.length_append]
    split
    · have := ih (x + rnl f x + 1) (by omega); simp only [List.length_nil]
      have hz : rnl f x = 0 := by assumption
      rw [hz] at this ⊢; omega
    · have := ih (x + rnl f x + 1) (by omega); simp only [List.length_cons, List.length_nil]; omega)
theorem canonR_length {g : Grid} : ∀ y, (canonR g y).length ≤ 8 * (16 - y) :=
  row_ind (fun y hy => by rw [canonR_done hy]; simp) (fun y hy ih => by
    have h1 := hgt_pos g y
    have h2 := hgt_le (g := g) hy
    have h3 := rowR_length (f := g y) (y := y) (h := hgt g y) 0
    rw [canonR_step hy, List.length_append]
    have := ih (y + hgt g y) (by omega)
    omega)
theorem canon_length (g : Grid) : (canon g).length ≤ 128 := canonR_length 0
theorem regionOk.length {l : List DRect} (h : regionOk l) : l.length ≤ 128 := by have := canon_length (points l); unfold regionOk at h; rwa [h] at this
def area : List DRect → Int
  | [] => 0
  | r :: l => r.W * r.H + area l
theorem area_append : ∀ (k l : List DRect), area (k ++ l) = area k + area l
  | [], l => by simp [area]
  | r :: k, l => by simp [area, area_append k l]; omega
/-- how many places below n are true -/
def cnt (f : Nat → Bool) : Nat → Nat
  | 0 => 0
  | n + 1 => cnt f n + (if f n = true then 1 else 0)
theorem cnt_congr {f g : Nat → Bool} : ∀ n, (∀ i, i < n → f i = g i) → cnt f n = cnt g n
  | 0, _ => rfl
  | n + 1, h => by simp only [cnt]; rw [cnt_congr n (fun i hi => h i (by omega)), h n (by omega)]
theorem cnt_le (f : Nat → Bool) : ∀ n, cnt f n ≤ n
  | 0 => Nat.le_refl _
  | n + 1 => by have := cnt_le f n; simp only [cnt]; split <;> omega
theorem cnt_mono {f g : Nat → Bool} : ∀ n, (∀ i, i < n → f i = true → g i = true) → cnt f n ≤ cnt g n
  | 0, _ => Nat.le_refl _
  | n + 1, h => by
    have := cnt_mono n (fun i hi => h i (by omega))
    simp only [cnt]
    have h2 := h n (by omega)
    split
    · rw [if_pos (h2 (by assumption))]; omega
    · omega
def sumN (f : Nat → Nat) : Nat → Nat
  | 0 => 0
  | n + 1 => sumN f n + f n
theorem sumN_congr {f g : Nat → Nat} : ∀ n, (∀ i, i < n → f i = g i) → sumN f n = sumN g n
  | 0, _ => rfl
  | n + 1, h => by simp only [sumN]; rw [sumN_congr n (fun i hi => h i (by omega)), h n (by omega)]
theorem sumN_mono {f g : Nat → Nat} : ∀ n, (∀ i, i < n → f i ≤ g i) → sumN f n ≤ sumN g n
  | 0, _ => Nat.le_refl _
  | n + 1, h => by have := sumN_mono n (fun i hi => h i (by omega)); have := h n (by omega); simp only [sumN]; omega
/-- how many points a set has -/
def card (g : Grid) : Nat := sumN (fun y => cnt (g y) 16) 16
theorem card_congr {g h : Grid} (e : g.eqv h) : card g = card h := sumN_congr 16 (fun y hy => cnt_congr 16 (fun x hx => e y x hy hx))
theorem card_mono {g h : Grid} (e : ∀ y x, y < 16 → x < 16 → g y x = true → h y x = true) : card g ≤ card h := sumN_mono 16 (fun y hy => cnt_mono 16 (fun x hx => e y x hy hx))
/-- the true places from x on -/
theorem cnt_run {f : Nat → Bool} {x : Nat} (hx : x ≤ 16) : ∀ w, w ≤ rnl f x → cnt f (x + w) = cnt f x + w
  | 0, _ => rfl
  | w + 1, h => by
    rw [show x + (w + 1) = (x + w) + 1 by omega]
    simp only [cnt]
    rw [cnt_run hx w (by omega), if_pos (rnl_in (f := f) (x := x) (by omega) (by omega)).2]; omega
theorem rowR_area {f : Nat → Bool} {y h : Int} : ∀ x, x ≤ 17 → area (rowR f y h x) = (cnt f 16 - cnt f (min x 16) : Int) * h :=
  row_ind (fun x hx _ => by rw [rowR_done hx, show min x 16 = 16 by omega]; simp [area]) (fun x hx ih hx' => by
    have hle := rnl_le (f := f) (x := x) (by omega)
    have hend := rnl_end (f := f) (x := x)
    have hc := cnt_run (f := f) (x := x) (by omega) (rnl f x) (Nat.le_refl _)
    rw [rowR_step hx, area_append, ih _ (by omega) (by omega)]
    have e1 : area (if rnl f x = 0 then [] else [⟨x, y, rnl f x, h⟩]) = (rnl f x : Int) * h := by
      split
      · rename_i e; rw [e]; simp [area]
      · simp [area]
    have e2 : cnt f (min (x + rnl f x + 1) 16) = cnt f x + rnl f x := by
      by_cases e : x + rnl f x + 1 ≤ 16
      · rw [show min (x + rnl f x + 1) 16 = (x + rnl f x) + 1 by omega]
        simp only [cnt]
        rw [hc, if_neg (fun hh => hend ⟨by omega, hh⟩)]; rfl
      · rw [show min (x + rnl f x + 1) 16 = x + rnl f x by omega, hc]
    rw [e1, e2, show min x 16 = x by omega, ← Int.add_mul]
    congr 1
    push_cast
    omega)
theorem sumN_like {f : Nat → Nat} {y c : Nat} : ∀ w, (∀ z, y ≤ z → z < y + w → f z = c) → sumN f (y + w) = sumN f y + w * c
  | 0, _ => by simp
  | w + 1, h => by
    rw [show y + (w + 1) = (y + w) + 1 by omega]
    simp only [sumN]
    rw [sumN_like w (fun z h1 h2 => h z h1 (by omega)), h (y + w) (by omega) (by omega), Nat.succ_mul]; omega
theorem canonR_area {g : Grid} : ∀ y, y ≤ 16 → area (canonR g y) = (card g : Int) - sumN (fun z => cnt (g z) 16) y :=
  row_ind (fun y hy h => by rw [canonR_done hy, show y = 16 by omega]; simp [area, card]) (fun y hy ih _ => by
    have h1 := hgt_pos g y
    have h2 := hgt_le (g := g) hy
    rw [canonR_step hy, area_append, ih _ (by omega) h2, rowR_area 0 (by omega)]
    rw [sumN_like (f := fun z => cnt (g z) 16) (y := y) (c := cnt (g y) 16) (hgt g y) (fun z h1 h2 => cnt_congr 16 (fun x hx => hgt_in h1 h2 hx))]
    have hz : cnt (g y) (min 0 16) = 0 := rfl
    rw [hz]
    generalize cnt (g y) 16 = c
    have := Int.mul_comm (c : Int) (hgt g y : Int)
    push_cast
    rw [Int.sub_zero, this]
    omega)
theorem area_canon (g : Grid) : area (canon g) = card g := by rw [canon, canonR_area 0 (by omega)]; simp [sumN]
theorem area_ok {l : List DRect} (h : regionOk l) : area l = card (points l) := by
  have := area_canon (points l)
  unfold regionOk at h
  rwa [h] at this

/-! sets of sets -/
def Grid.or (g h : Grid) : Grid := fun y x => g y x || h y x
def Grid.and (g h : Grid) : Grid := fun y x => g y x && h y x
def Grid.without (g h : Grid) : Grid := fun y x => g y x && !h y x
def Grid.none : Grid := fun _ _ => false
theorem Grid.or_congr {g g' h h' : Grid} (e : g.eqv g') (f : h.eqv h') : (g.or h).eqv (g'.or h') := fun y x hy hx => by simp only [Grid.or]; rw [e y x hy hx, f y x hy hx]
theorem Grid.and_congr {g g' h h' : Grid} (e : g.eqv g') (f : h.eqv h') : (g.and h).eqv (g'.and h') := fun y x hy hx => by simp only [Grid.and]; rw [e y x hy hx, f y x hy hx]
theorem Grid.without_congr {g g' h h' : Grid} (e : g.eqv g') (f : h.eqv h') : (g.without h).eqv (g'.without h') := fun y x hy hx => by simp only [Grid.without]; rw [e y x hy hx, f y x hy hx]
/-- the points of a rectangle -/
def rectG (r : DRect) : Grid := fun y x => r.holds y x
theorem points_one (r : DRect) : points [r] = rectG r := by
  funext y x; rw [points_cons, points_nil, Bool.or_false]; rfl
theorem points_congr_append {k l : List DRect} : points (k ++ l) = (points k).or (points l) := by funext y x; exact points_append k l y x
def DRect.screen : DRect := ⟨0, 0, 16, 16⟩
theorem screen_ok : DRect.screen.ok := by unfold DRect.screen DRect.ok; dsimp only; omega
theorem inter_has {a b : DRect} (ha : a.ok) (hb : b.ok) (x y : Int) : (a.inter b).has x y ↔ a.has x y ∧ b.has x y := by
  have h1 := (DRect.inter_ok ha hb).1
  unfold DRect.has
  constructor
  · rintro ⟨_, h⟩
    unfold DRect.inter at h
    rw [if_pos ⟨ha, hb⟩] at h
    unfold DRect.ok at *
    split at h
    · dsimp only [DRect.zero] at h; omega
    · dsimp only at h; omega
  · rintro ⟨⟨_, h2⟩, ⟨_, h3⟩⟩
    refine ⟨h1, ?_⟩
    unfold DRect.inter
    rw [if_pos ⟨ha, hb⟩]
    split
    · omega
    · dsimp only; omega
theorem inter_not {a b : DRect} (h : ¬ a.ok ∨ ¬ b.ok) : a.inter b = DRect.zero := by
  unfold DRect.inter
  rw [if_neg (by rcases h with h | h; exact fun e => h e.1; exact fun e => h e.2)]
theorem zero_has (x y : Int) : ¬ DRect.zero.has x y := by unfold DRect.has DRect.zero; dsimp only; omega
theorem inter_holds {a b : DRect} (hb : b.ok) (y x : Nat) : (a.inter b).holds y x = (a.holds y x && b.holds y x) := by
  unfold DRect.holds
  by_cases ha : a.ok
  · rw [← Bool.decide_and]; exact decide_eq_decide.2 (inter_has ha hb x y)
  · rw [inter_not (.inl ha), decide_eq_false (zero_has _ _), decide_eq_false (fun h => ha h.1), Bool.false_and]
theorem inter_screen {r : DRect} : (rectG (r.inter DRect.screen)).eqv (rectG r) := fun y x hy hx => by
  show (r.inter DRect.screen).holds y x = r.holds y x
  rw [inter_holds screen_ok]
  have : DRect.screen.holds y x = true := by unfold DRect.holds DRect.has; exact decide_eq_true ⟨screen_ok, by unfold DRect.screen; dsimp only; omega⟩
  rw [this, Bool.and_true]

/-! a row as a number -/
def bits (f : Nat → Bool) : Nat → Nat
  | 0 => 0
  | n + 1 => bits f n + (if f n = true then 2 ^ n else 0)
theorem bits_lt (f : Nat → Bool) : ∀ n, bits f n < 2 ^ n
  | 0 => by simp [bits]
  | n + 1 => by have := bits_lt f n; simp only [bits]; rw [Nat.pow_succ]; split <;> omega
theorem bits_testBit (f : Nat → Bool) : ∀ n i, (bits f n).testBit i = (decide (i < n) && f i)
  | 0, i => by simp [bits]
  | n + 1, i => by
    have hl := bits_lt f n
    have ih := bits_testBit f n i
    simp only [bits]
    cases hf : f n
    · simp only [Bool.false_eq_true, if_false, Nat.add_zero, ih]
      by_cases e : i = n
      · subst e; simp [hf]
      · by_cases h : i < n
        · simp [h, show i < n + 1 by omega]
        · simp [h, show ¬ i < n + 1 by omega]
    · simp only [if_true]
      rw [Nat.add_comm]
      by_cases e : i = n
      · subst e
        rw [Nat.testBit_two_pow_add_eq]
        rw [Nat.testBit_lt_two_pow hl]
        simp [hf]
      · by_cases h : i < n
        · rw [Nat.testBit_two_pow_add_gt h, ih]
          simp [h, show i < n + 1 by omega]
        · have : 2 ^ n + bits f n < 2 ^ i := by
            have h2 : 2 ^ (n + 1) ≤ 2 ^ i := Nat.pow_le_pow_right (by omega) (by omega)
            rw [Nat.pow_succ] at h2; omega
          rw [Nat.testBit_lt_two_pow this]
          simp [show ¬ i < n + 1 by omega]
theorem bits_or (f g : Nat → Bool) (n : Nat) : bits f n ||| bits g n = bits (fun i => f i || g i) n := by
  apply Nat.eq_of_testBit_eq; intro i
  rw [Nat.testBit_or, bits_testBit, bits_testBit, bits_testBit]; cases decide (i < n) <;> simp
theorem bits_and (f g : Nat → Bool) (n : Nat) : bits f n &&& bits g n = bits (fun i => f i && g i) n := by
  apply Nat.eq_of_testBit_eq; intro i
  rw [Nat.testBit_and, bits_testBit, bits_testBit, bits_testBit]; cases decide (i < n) <;> simp
theorem bits_congr {f g : Nat → Bool} : ∀ n, (∀ i, i < n → f i = g i) → bits f n = bits g n
  | 0, _ => rfl
  | n + 1, h => by simp only [bits]; rw [bits_congr n (fun i hi => h i (by omega)), h n (by omega)]
theorem bits_inj {f g : Nat → Bool} {n : Nat} : bits f n = bits g n ↔ ∀ i, i < n → f i = g i := by
  refine ⟨fun h i hi => ?_, bits_congr n⟩
  have h1 := bits_testBit f n i
  rw [h, bits_testBit] at h1
  simpa [hi] using h1.symm
theorem bits_span {X W n : Nat} (h : X + W ≤ n) : (2 ^ W - 1) * 2 ^ X = bits (fun i => decide (X ≤ i ∧ i < X + W)) n := by
  apply Nat.eq_of_testBit_eq; intro i
  rw [bits_testBit, ← Nat.shiftLeft_eq, Nat.testBit_shiftLeft, Nat.testBit_two_pow_sub_one]
  by_cases h1 : X ≤ i <;> by_cases h2 : i < X + W
  · simp [h1, h2, show i - X < W by omega, show i < n by omega]
  · simp [h1, h2, show ¬ i - X < W by omega]
  · simp [h1]
  · simp [h1]
theorem bits_and_bit (f : Nat → Bool) {n x : Nat} (hx : x < n) : bits f n &&& 2 ^ x = if f x = true then 2 ^ x else 0 := by
  apply Nat.eq_of_testBit_eq; intro i
  rw [Nat.testBit_and, bits_testBit, Nat.testBit_two_pow]
  by_cases e : x = i
  · subst e
    cases f x <;> simp [hx, Nat.testBit_two_pow_self]
  · cases f x <;> simp [e]
theorem bits_bit_ne {f : Nat → Bool} {n x : Nat} (hx : x < n) : ((bits f n &&& 2 ^ x : Nat) : Int) ≠ 0 ↔ f x = true := by
  rw [bits_and_bit f hx]
  split
  · rename_i h; rw [h]; have : 0 < 2 ^ x := Nat.pos_of_ne_zero (by simp); exact ⟨fun _ => rfl, fun _ => by omega⟩
  · rename_i h; simp [h]
theorem bits_and_le (f g : Nat → Bool) : ∀ n, bits (fun i => f i && g i) n ≤ bits f n
  | 0 => Nat.le_refl _
  | n + 1 => by
    have := bits_and_le f g n
    rcases Bool.eq_false_or_eq_true (f n) with hf | hf <;> rcases Bool.eq_false_or_eq_true (g n) with hg | hg <;> simp [bits, hf, hg] <;> (try generalize 2 ^ n = z at *) <;> omega
theorem bits_without (f g : Nat → Bool) : ∀ n, bits f n - (bits f n &&& bits g n) = bits (fun i => f i && !g i) n := by
  intro n
  rw [bits_and]
  induction n with
  | zero => rfl
  | succ n ih =>
    have h1 := bits_and_le f g n
    rcases Bool.eq_false_or_eq_true (f n) with hf | hf <;> rcases Bool.eq_false_or_eq_true (g n) with hg | hg <;> simp [bits, hf, hg] <;> (try generalize 2 ^ n = z at *) <;> omega
end Sx
/-
  The plain functions, continued: pictures as functions of the place; painting. No program in sight.
-/
set_option linter.unusedVariables false
namespace Sx

/-! ### a picture as a function -/
theorem mapTo_get (f : Int → Int → Int) (w : Int) {n q : Nat} (h : q < n) : (mapTo f w n).getD q 0 = f ((q : Int) % w) ((q : Int) / w) := by
  simp [mapTo, List.getD_eq_getElem?_getD, h]
theorem place_lt {w h x y : Int} (hx : 0 ≤ x ∧ x < w) (hy : 0 ≤ y ∧ y < h) : 0 ≤ y * w + x ∧ y * w + x < w * h ∧ (y * w + x).toNat < (w * h).toNat := by
  have h1 : 0 ≤ y * w := Int.mul_nonneg hy.1 (by omega)
  have h2 : (y + 1) * w ≤ h * w := Int.mul_le_mul_of_nonneg_right (by omega) (by omega)
  rw [Int.add_mul, Int.one_mul] at h2
  rw [Int.mul_comm h w] at h2
  omega
theorem mapTo_at (f : Int → Int → Int) {w h x y : Int} (hx : 0 ≤ x ∧ x < w) (hy : 0 ≤ y ∧ y < h) : (mapTo f w (w * h).toNat).getD (y * w + x).toNat 0 = f x y := by
  have h1 := place_lt hx hy
  have h2 := row_mod (w := w) hx hy.1
  rw [mapTo_get f w h1.2.2, Int.toNat_of_nonneg h1.1, h2.1, h2.2]
theorem mod_row {w : Int} {q : Nat} (hw : 1 ≤ w) : 0 ≤ (q : Int) % w ∧ (q : Int) % w < w ∧ 0 ≤ (q : Int) / w ∧ ((q : Int) / w) * w + (q : Int) % w = q := by
  have h1 := Int.emod_nonneg (q : Int) (b := w) (by omega)
  have h2 := Int.emod_lt_of_pos (q : Int) (b := w) (by omega)
  have h3 : 0 ≤ (q : Int) / w := Int.ediv_nonneg (by omega) (by omega)
  have h4 := Int.mul_ediv_add_emod (q : Int) w
  rw [Int.mul_comm] at h4
  exact ⟨h1, h2, h3, h4⟩
theorem div_lt {w h : Int} {q : Nat} (hw : 1 ≤ w) (hq : q < (w * h).toNat) : (q : Int) / w < h := by
  have h1 : (q : Int) < h * w := by rw [Int.mul_comm]; omega
  exact Int.ediv_lt_of_lt_mul (by omega) h1
theorem mapTo_congr {f g : Int → Int → Int} {w h : Int} (hw : 1 ≤ w) (e : ∀ x y, 0 ≤ x → x < w → 0 ≤ y → y < h → f x y = g x y) : mapTo f w (w * h).toNat = mapTo g w (w * h).toNat := by
  unfold mapTo
  apply List.map_congr_left
  intro q hq
  have := mod_row (w := w) (q := q) hw
  exact e _ _ this.1 this.2.1 this.2.2.1 (div_lt hw (List.mem_range.1 hq))
theorem list_eq_getD {l m : List Int} (hl : l.length = m.length) (h : ∀ i, i < l.length → l.getD i 0 = m.getD i 0) : l = m := by
  apply List.ext_getElem?
  intro i
  by_cases hi : i < l.length
  · have := h i hi
    simp only [List.getD_eq_getElem?_getD, List.getElem?_eq_getElem hi, List.getElem?_eq_getElem (show i < m.length by omega), Option.getD_some] at this
    rw [List.getElem?_eq_getElem hi, List.getElem?_eq_getElem (show i < m.length by omega), this]
  · rw [List.getElem?_eq_none (by omega), List.getElem?_eq_none (by omega)]
theorem mapTo_self {w h : Int} {l : List Int} (hw : 1 ≤ w) (hl : l.length = (w * h).toNat) : l = mapTo (fun x y => l.getD (y * w + x).toNat 0) w (w * h).toNat := by
  apply list_eq_getD (by rw [mapTo_length]; exact hl)
  intro q hq
  rw [mapTo_get _ _ (by omega)]
  rw [(mod_row hw).2.2.2]; simp
theorem mapTo_inj {f g : Int → Int → Int} {w h : Int} (hw : 1 ≤ w) (e : mapTo f w (w * h).toNat = mapTo g w (w * h).toNat) : ∀ x y, 0 ≤ x → x < w → 0 ≤ y → y < h → f x y = g x y := fun x y h1 h2 h3 h4 => by
  rw [← mapTo_at f (w := w) (h := h) ⟨h1, h2⟩ ⟨h3, h4⟩, e, mapTo_at g ⟨h1, h2⟩ ⟨h3, h4⟩]
/-- one dot is set -/
theorem mapTo_set (f : Int → Int → Int) {w h x y v : Int} (hx : 0 ≤ x ∧ x < w) (hy : 0 ≤ y ∧ y < h) :
    (mapTo f w (w * h).toNat).set (y * w + x).toNat v = mapTo (fun a b => if a = x ∧ b = y then v else f a b) w (w * h).toNat := by
  apply list_eq_getD (by simp [mapTo_length])
  intro q hq
  rw [List.length_set, mapTo_length] at hq
  have h1 := place_lt hx hy
  have h2 := row_mod (w := w) hx hy.1
  have h3 := mod_row (w := w) (q := q) (by omega)
  rw [mapTo_get _ _ hq, List.getD_eq_getElem?_getD, List.getElem?_set]
  by_cases e : (y * w + x).toNat = q
  · rw [if_pos e, if_pos (by rw [mapTo_length]; omega)]
    have e' : (q : Int) = y * w + x := by omega
    rw [e', h2.1, h2.2, if_pos ⟨rfl, rfl⟩]; rfl
  · rw [if_neg e, if_neg (fun hh => e (by
      have h4 := h3.2.2.2
      rw [hh.1, hh.2] at h4; omega))]
    rw [← List.getD_eq_getElem?_getD, mapTo_get _ _ hq]
/-- a valid image's pixel -/
def DImg.at (i : DImg) (x y : Int) : Int := i.data.getD (y * i.W + x).toNat 0
theorem DImg.ok.lenN {i : DImg} (h : i.ok) : i.data.length = (i.W * i.H).toNat := by have := h.2.2.1; omega
theorem DImg.ok.self {i : DImg} (h : i.ok) : i.data = mapTo i.at i.W (i.W * i.H).toNat := mapTo_self h.1.1 h.lenN
theorem DImg.ok.at_pix {i : DImg} (h : i.ok) (x y : Int) : pixP (i.at x y) := h.pix _
theorem DImg.ext' {i j : DImg} (hi : i.ok) (hj : j.ok) (h1 : i.W = j.W) (h2 : i.H = j.H) (h3 : ∀ x y, 0 ≤ x → x < i.W → 0 ≤ y → y < i.H → i.at x y = j.at x y) : i = j := by
  refine DImg.eq h1 h2 ?_
  rw [hi.self, hj.self, ← h1, ← h2]
  exact mapTo_congr hi.1.1 h3
/-- an image that a function gives -/
def fimg (f : Int → Int → Int) (w h : Int) : DImg := ⟨w, h, mapTo f w (w * h).toNat⟩
theorem fimg_ok {f : Int → Int → Int} {w h : Int} (hw : 1 ≤ w ∧ w ≤ 16) (hh : 1 ≤ h ∧ h ≤ 16) (hf : ∀ x y, 0 ≤ x → x < w → 0 ≤ y → y < h → pixP (f x y)) : (fimg f w h).ok := by
  have hs := side_mul (w := w) (h := h) ⟨hw.1, hw.2, hh.1, hh.2⟩
  refine ⟨hw, hh, by simp only [fimg, mapTo_length]; omega, fun q hq => ?_⟩
  simp only [fimg, mapTo_length] at hq ⊢
  rw [mapTo_get _ _ hq]
  have := mod_row (w := w) (q := q) hw.1
  exact hf _ _ this.1 this.2.1 this.2.2.1 (div_lt hw.1 hq)
theorem fimg_at (f : Int → Int → Int) {w h x y : Int} (hx : 0 ≤ x ∧ x < w) (hy : 0 ≤ y ∧ y < h) : (fimg f w h).at x y = f x y := mapTo_at f hx hy
theorem fimg_congr {f g : Int → Int → Int} {w h : Int} (hw : 1 ≤ w) (e : ∀ x y, 0 ≤ x → x < w → 0 ≤ y → y < h → f x y = g x y) : fimg f w h = fimg g w h := by
  unfold fimg; rw [mapTo_congr hw e]
theorem DImg.ok.fimg {i : DImg} (h : i.ok) : i = Sx.fimg i.at i.W i.H := DImg.eq rfl rfl h.self

/-! ### chapter 11: painting -/
/-- the rectangle of a valid surface, visible or not -/
def rawRect (s : DSurf) : DRect := ⟨s.X, s.Y, (surfSize s).1, (surfSize s).2⟩
theorem surfSize_pic {s : DSurf} (h : s.ok) : (pictureOf s).W = (surfSize s).1 ∧ (pictureOf s).H = (surfSize s).2 := by
  have hb := h.2.2.2.2.2.2
  have ho := h.2.2.2.2.2.1
  have hsz := h.2.2.2.1
  unfold DSurf.sized at hsz
  unfold pictureOf rawPicture surfSize
  rw [if_pos h]
  unfold fadedImg
  by_cases e : s.W ≠ 0
  · rw [if_pos e, if_pos e]
    unfold scaled
    rw [if_pos ⟨oriented_ok hb ho, by omega, by omega⟩]; exact ⟨rfl, rfl⟩
  · rw [if_neg e, if_neg e]
    unfold oriented
    rw [if_pos ⟨hb, ho⟩]; exact ⟨rfl, rfl⟩
theorem surfSize_bd {s : DSurf} (h : s.ok) : (1 ≤ (surfSize s).1 ∧ (surfSize s).1 ≤ 16) ∧ (1 ≤ (surfSize s).2 ∧ (surfSize s).2 ≤ 16) := by
  have h1 := pictureOf_ok h
  have h2 := surfSize_pic h
  rw [← h2.1, ← h2.2]; exact ⟨h1.1, h1.2.1⟩
theorem rawRect_ok {s : DSurf} (h : s.ok) : (rawRect s).ok := by
  have h1 := surfSize_bd h
  have h2 := h.2.1
  have h3 := h.2.2.1
  unfold rawRect DRect.ok; dsimp only; omega
theorem surfRect_vis {s : DSurf} (h : s.ok) (hv : s.Visible = true) : surfRect s = rawRect s := by unfold surfRect; rw [if_pos ⟨h, hv⟩]; rfl
theorem surfRect_hid {s : DSurf} (hv : ¬ s.Visible = true) : surfRect s = DRect.zero := by unfold surfRect; rw [if_neg (fun e => hv e.2)]
theorem surfRect_ok (s : DSurf) : (surfRect s).ok := by
  by_cases h : s.ok ∧ s.Visible = true
  · rw [surfRect_vis h.1 h.2]; exact rawRect_ok h.1
  · unfold surfRect; rw [if_neg h]; unfold DRect.zero DRect.ok; dsimp only; omega
/-- the pixel that a surface has at a point -/
def pixOf (s : DSurf) (x y : Int) : Int := (pictureOf s).at (x - s.X) (y - s.Y)
/-- a surface over what is below it -/
def layer (s : DSurf) (x y b : Int) : Int := if (surfRect s).has x y then over (pixOf s x y) b else b
theorem layer_pix {s : DSurf} {x y b : Int} (h : s.ok) (hb : pixP b) : pixP (layer s x y b) := by
  unfold layer
  split
  · have := over_bd ((pictureOf_ok h).at_pix (x - s.X) (y - s.Y)) hb
    show pixP (over ((pictureOf s).at (x - s.X) (y - s.Y)) b)
    unfold pixP; omega
  · exact hb
def layers (l : List DSurf) (x y b : Int) : Int := l.foldl (fun q s => layer s x y q) b
theorem layers_append (k l : List DSurf) (x y b : Int) : layers (k ++ l) x y b = layers l x y (layers k x y b) := by simp [layers]
theorem layers_cons (s : DSurf) (l : List DSurf) (x y b : Int) : layers (s :: l) x y b = layers l x y (layer s x y b) := rfl
theorem layers_pix : ∀ {l : List DSurf} {x y b : Int}, (∀ s ∈ l, s.ok) → pixP b → pixP (layers l x y b)
  | [], _, _, _, _, h => h
  | s :: l, x, y, b, hl, h => by
    rw [layers_cons]
    exact layers_pix (fun q hq => hl q (List.mem_cons_of_mem _ hq)) (layer_pix (hl s (List.mem_cons_self ..)) h)
theorem surfsOk_mem {l : List DSurf} (h : surfsOk l l.length) : ∀ s ∈ l, s.ok := fun s hs => by
  obtain ⟨i, hi, e⟩ := List.mem_iff_getElem.1 hs
  have := (h i hi).1
  rw [List.getD_eq_getElem?_getD, List.getElem?_eq_getElem hi, Option.getD_some, e] at this
  exact this
def paintF (s : DScene) (x y : Int) : Int := layers s.ss x y s.Back
def painted (s : DScene) : DImg := fimg (paintF s) s.W s.H
def paint (s : DScene) : DImg := if s.ok then painted s else DImg.zero
def paintAt (s : DScene) (x y : Int) : Int := if s.ok ∧ (0 ≤ x ∧ x ≤ s.W - 1) ∧ (0 ≤ y ∧ y ≤ s.H - 1) then paintF s x y else -1
theorem DScene.ok.back {s : DScene} (h : s.ok) : pixP s.Back := h.2.2.1.1
theorem DScene.ok.surf {s : DScene} (h : s.ok) {q : DSurf} (hq : q ∈ s.ss) : q.ok := surfsOk_mem h.2.2.2.2 q hq
theorem paintF_pix {s : DScene} (h : s.ok) (x y : Int) : pixP (paintF s x y) := layers_pix (fun q hq => h.surf hq) h.back
theorem painted_ok {s : DScene} (h : s.ok) : (painted s).ok := fimg_ok h.1 h.2.1 (fun x y _ _ _ _ => paintF_pix h x y)
/-- the first n surfaces -/
def paintTo (s : DScene) (n : Nat) (x y : Int) : Int := layers (s.ss.take n) x y s.Back
theorem paintTo_zero (s : DScene) (x y : Int) : paintTo s 0 x y = s.Back := rfl
theorem paintTo_succ {s : DScene} {n : Nat} (h : n < s.ss.length) (x y : Int) : paintTo s (n + 1) x y = layer (s.ss.getD n default) x y (paintTo s n x y) := by
  unfold paintTo
  rw [List.take_add_one, List.getElem?_eq_getElem h, Option.toList_some, layers_append]
  simp [layers, List.getD_eq_getElem?_getD, List.getElem?_eq_getElem h]
theorem paintTo_all (s : DScene) (x y : Int) : paintTo s s.ss.length x y = paintF s x y := by unfold paintTo paintF; rw [List.take_length]
theorem paintTo_pix {s : DScene} (h : s.ok) (n : Nat) (x y : Int) : pixP (paintTo s n x y) := layers_pix (fun q hq => h.surf (List.mem_of_mem_take hq)) h.back

/-! one surface over an image, within some points -/
/-- what paintOne has made of the pixel at (x, y) after k pixels of the picture -/
def hitTo (s : DSurf) (k : Nat) (x y : Int) : Prop := (rawRect s).has x y ∧ (y - s.Y) * (surfSize s).1 + (x - s.X) < k
instance (s : DSurf) (k : Nat) (x y : Int) : Decidable (hitTo s k x y) := by unfold hitTo; infer_instance
def inG (g : Grid) (x y : Int) : Bool := g y.toNat x.toNat
def oneTo (s : DSurf) (g : Grid) (old : Int → Int → Int) (k : Nat) (x y : Int) : Int := if hitTo s k x y ∧ inG g x y = true then over (pixOf s x y) (old x y) else old x y
/-- the place of the k-th pixel on the screen -/
def kx (s : DSurf) (k : Nat) : Int := s.X + (k : Int) % (surfSize s).1
def ky (s : DSurf) (k : Nat) : Int := s.Y + (k : Int) / (surfSize s).1
theorem hitTo_zero {s : DSurf} (h : s.ok) (x y : Int) : ¬ hitTo s 0 x y := by
  rintro ⟨⟨_, h1⟩, h2⟩
  have hs := surfSize_bd h
  unfold rawRect at h1; dsimp only at h1
  have : 0 ≤ (y - s.Y) * (surfSize s).1 := Int.mul_nonneg (by omega) (by omega)
  omega
theorem hitTo_succ {s : DSurf} (h : s.ok) {k : Nat} (hk : k < ((surfSize s).1 * (surfSize s).2).toNat) (x y : Int) : hitTo s (k + 1) x y ↔ hitTo s k x y ∨ (x = kx s k ∧ y = ky s k) := by
  have hs := surfSize_bd h
  have hm := mod_row (w := (surfSize s).1) (q := k) (by omega)
  have hd := div_lt (w := (surfSize s).1) (h := (surfSize s).2) (q := k) (by omega) hk
  constructor
  · rintro ⟨h1, h2⟩
    by_cases e : (y - s.Y) * (surfSize s).1 + (x - s.X) < k
    · exact .inl ⟨h1, e⟩
    · refine .inr ?_
      have e2 : (y - s.Y) * (surfSize s).1 + (x - s.X) = k := by push_cast at h2; omega
      have h3 := h1.2
      unfold rawRect at h3; dsimp only at h3
      have := row_mod (w := (surfSize s).1) (x := x - s.X) (y := y - s.Y) (by omega) (by omega)
      rw [e2] at this
      unfold kx ky
      omega
  · rintro (⟨h1, h2⟩ | ⟨rfl, rfl⟩)
    · exact ⟨h1, by push_cast; omega⟩
    · refine ⟨⟨rawRect_ok h, ?_⟩, ?_⟩
      · unfold rawRect kx ky; dsimp only; omega
      · unfold kx ky
        rw [show s.Y + (k : Int) / (surfSize s).1 - s.Y = (k : Int) / (surfSize s).1 by omega, show s.X + (k : Int) % (surfSize s).1 - s.X = (k : Int) % (surfSize s).1 by omega]
        push_cast; omega
theorem hitTo_not {s : DSurf} (h : s.ok) {k : Nat} : ¬ hitTo s k (kx s k) (ky s k) := by
  have hs := surfSize_bd h
  have hm := mod_row (w := (surfSize s).1) (q := k) (by omega)
  rintro ⟨_, h2⟩
  unfold kx ky at h2
  rw [show s.Y + (k : Int) / (surfSize s).1 - s.Y = (k : Int) / (surfSize s).1 by omega, show s.X + (k : Int) % (surfSize s).1 - s.X = (k : Int) % (surfSize s).1 by omega] at h2
  omega
theorem hitTo_all {s : DSurf} (h : s.ok) (x y : Int) : hitTo s ((surfSize s).1 * (surfSize s).2).toNat x y ↔ (rawRect s).has x y := by
  have hs := surfSize_bd h
  have hp := side_mul (w := (surfSize s).1) (h := (surfSize s).2) ⟨hs.1.1, hs.1.2, hs.2.1, hs.2.2⟩
  refine ⟨fun hh => hh.1, fun hh => ⟨hh, ?_⟩⟩
  have h3 := hh.2
  unfold rawRect at h3; dsimp only at h3
  have := (place_lt (w := (surfSize s).1) (h := (surfSize s).2) (x := x - s.X) (y := y - s.Y) (by omega) (by omega)).2.1
  omega
theorem oneTo_zero {s : DSurf} (h : s.ok) (g : Grid) (old : Int → Int → Int) (x y : Int) : oneTo s g old 0 x y = old x y := by
  unfold oneTo; rw [if_neg (fun e => hitTo_zero h x y e.1)]
theorem pixOf_k {s : DSurf} (h : s.ok) {k : Nat} (hk : k < ((surfSize s).1 * (surfSize s).2).toNat) : pixOf s (kx s k) (ky s k) = (pictureOf s).data.getD k 0 := by
  have hs := surfSize_bd h
  have hm := mod_row (w := (surfSize s).1) (q := k) (by omega)
  unfold pixOf DImg.at kx ky
  rw [(surfSize_pic h).1]
  rw [show s.Y + (k : Int) / (surfSize s).1 - s.Y = (k : Int) / (surfSize s).1 by omega, show s.X + (k : Int) % (surfSize s).1 - s.X = (k : Int) % (surfSize s).1 by omega, hm.2.2.2]
  simp
theorem oneTo_hit {s : DSurf} (h : s.ok) (g : Grid) (old : Int → Int → Int) {k : Nat} (hk : k < ((surfSize s).1 * (surfSize s).2).toNat) (hg : inG g (kx s k) (ky s k) = true) (x y : Int) :
    oneTo s g old (k + 1) x y = if x = kx s k ∧ y = ky s k then over ((pictureOf s).data.getD k 0) (oneTo s g old k (kx s k) (ky s k)) else oneTo s g old k x y := by
  unfold oneTo
  by_cases e : x = kx s k ∧ y = ky s k
  · rw [if_pos e]
    obtain ⟨rfl, rfl⟩ := e
    rw [if_pos ⟨(hitTo_succ h hk _ _).2 (.inr ⟨rfl, rfl⟩), hg⟩, if_neg (fun hh => hitTo_not h hh.1), pixOf_k h hk]
  · rw [if_neg e]
    have : hitTo s (k + 1) x y ↔ hitTo s k x y := by rw [hitTo_succ h hk]; exact ⟨fun hh => hh.resolve_right e, .inl⟩
    by_cases e2 : hitTo s k x y ∧ inG g x y = true
    · rw [if_pos e2, if_pos ⟨this.2 e2.1, e2.2⟩]
    · rw [if_neg e2, if_neg (fun hh => e2 ⟨this.1 hh.1, hh.2⟩)]
theorem oneTo_miss {s : DSurf} (h : s.ok) (g : Grid) (old : Int → Int → Int) {k : Nat} (hk : k < ((surfSize s).1 * (surfSize s).2).toNat) (x y : Int) (hg : ¬ (x = kx s k ∧ y = ky s k ∧ inG g x y = true)) : oneTo s g old (k + 1) x y = oneTo s g old k x y := by
  unfold oneTo
  have hx := hitTo_succ h hk x y
  by_cases e2 : hitTo s k x y ∧ inG g x y = true
  · rw [if_pos e2, if_pos ⟨hx.2 (.inl e2.1), e2.2⟩]
  · rw [if_neg e2, if_neg (fun hh => by
      rcases hx.1 hh.1 with h1 | ⟨h1, h2⟩
      · exact e2 ⟨h1, hh.2⟩
      · exact hg ⟨h1, h2, hh.2⟩)]
theorem oneTo_all {s : DSurf} (h : s.ok) (g : Grid) (old : Int → Int → Int) (x y : Int) : oneTo s g old ((surfSize s).1 * (surfSize s).2).toNat x y = if (rawRect s).has x y ∧ inG g x y = true then over (pixOf s x y) (old x y) else old x y := by
  unfold oneTo
  by_cases e : (rawRect s).has x y ∧ inG g x y = true
  · rw [if_pos e, if_pos ⟨(hitTo_all h x y).2 e.1, e.2⟩]
  · rw [if_neg e, if_neg (fun hh => e ⟨(hitTo_all h x y).1 hh.1, hh.2⟩)]
theorem oneTo_pix {s : DSurf} (h : s.ok) (g : Grid) {old : Int → Int → Int} (k : Nat) {x y : Int} (ho : pixP (old x y)) : pixP (oneTo s g old k x y) := by
  unfold oneTo
  split
  · have := over_bd ((pictureOf_ok h).at_pix (x - s.X) (y - s.Y)) ho
    show pixP (over ((pictureOf s).at (x - s.X) (y - s.Y)) (old x y))
    unfold pixP; omega
  · exact ho
/-! opaque surfaces hide what is below -/
theorem prt_full {a : Int} (h : byteP a) : prt a 255 = a := by
  unfold prt; rw [if_pos ⟨h, by unfold byteP; omega⟩]; unfold byteP at h; omega
theorem prt_none {a : Int} (h : byteP a) : prt a 0 = 0 := by
  unfold prt; rw [if_pos ⟨h, by unfold byteP; omega⟩]; unfold byteP at h; omega
theorem over_opaque {t b c : Int} (ht : 4278190080 ≤ t ∧ t ≤ 4294967295) (hb : pixP b) (hc : pixP c) : over t b = over t c := by
  have h0 : chan t 0 = 255 := ((opaqueP_iff t).2 ht).2
  have hp : pixP t := ((opaqueP_iff t).2 ht).1
  unfold over
  rw [if_pos ⟨hp, hb⟩, if_pos ⟨hp, hc⟩, h0]
  rw [show (255 - 255 : Int) = 0 by omega]
  rw [prt_none (chan_bd b 1), prt_none (chan_bd b 2), prt_none (chan_bd b 3), prt_none (chan_bd c 1), prt_none (chan_bd c 2), prt_none (chan_bd c 3)]
theorem pixOf_opaque {s : DSurf} (h : isOpaqueS s) {x y : Int} (hh : (surfRect s).has x y) : 4278190080 ≤ pixOf s x y ∧ pixOf s x y ≤ 4294967295 := by
  have hv : s.Visible = true := by
    by_cases e : s.Visible = true
    · exact e
    · rw [surfRect_hid e] at hh; exact absurd hh (zero_has _ _)
  have hok := h.1
  have hs := surfSize_bd hok
  have hp := surfSize_pic hok
  rw [surfRect_vis hok hv] at hh
  have h3 := hh.2
  unfold rawRect at h3; dsimp only at h3
  have hl := (pictureOf_ok hok).lenN
  have hpl := (place_lt (w := (surfSize s).1) (h := (surfSize s).2) (x := x - s.X) (y := y - s.Y) (by omega) (by omega)).2.2
  refine h.2 _ ?_
  rw [hl, hp.1, hp.2]; exact hpl
end Sx
/-
  Contracts: a pixel over another one; new images.
-/
set_option linter.unusedVariables false
namespace Go.Proofs.YtfmjeakcfmmkfaaGreat
open Go Sx
attribute [local irreducible] Exit.then Exit.inBlock bodyPost
/-- the first channels of a pixel over another one -/
def ovk (t c : Int) : Nat → Int
  | 0 => 255
  | k + 1 => ovk t c k * 256 + (prt (chan t ((k : Int) + 1)) (chan t 0) + prt (chan c ((k : Int) + 1)) (255 - chan t 0))
theorem ovk_succ (t c : Int) (k : Nat) : ovk t c (k + 1) = ovk t c k * 256 + (prt (chan t ((k : Int) + 1)) (chan t 0) + prt (chan c ((k : Int) + 1)) (255 - chan t 0)) := rfl
theorem ovk_three {t c : Int} (ht : pixP t) (hc : pixP c) : ovk t c 3 = over t c := by unfold over; rw [if_pos ⟨ht, hc⟩]; rfl
theorem ovp_bd (t c k : Int) : (0 ≤ prt (chan t k) (chan t 0) ∧ prt (chan t k) (chan t 0) ≤ chan t 0) ∧ (0 ≤ prt (chan c k) (255 - chan t 0) ∧ prt (chan c k) (255 - chan t 0) ≤ 255 - chan t 0) ∧ (0 ≤ chan t 0 ∧ chan t 0 ≤ 255) := by
  have h0 := chan_bd t 0
  have h255 : byteP (255 - chan t 0) := by unfold byteP; omega
  have h1 := prt_bd (chan_bd t k) (chan_bd t 0)
  have h2 := prt_bd (chan_bd c k) h255
  exact ⟨h1.2, h2.2, h0⟩
theorem ovk_bd (t c : Int) {k : Nat} (hk : k ≤ 2) : 0 ≤ ovk t c k ∧ ovk t c k ≤ 16777215 := by
  have a := ovp_bd t c 1
  have d := ovp_bd t c 2
  have e1 : ovk t c 1 = 255 * 256 + (prt (chan t 1) (chan t 0) + prt (chan c 1) (255 - chan t 0)) := rfl
  have e2 : ovk t c 2 = ovk t c 1 * 256 + (prt (chan t 2) (chan t 0) + prt (chan c 2) (255 - chan t 0)) := rfl
  match k, hk with
  | 0, _ => exact ⟨show (0 : Int) ≤ 255 by decide, show (255 : Int) ≤ 16777215 by decide⟩
  | 1, _ => rw [e1]; omega
  | 2, _ => rw [e2, e1]; omega
theorem c_iover (t c : Int) (w : World) (ht : pixP t) (hc : pixP c) : SYields Tryz.prog 185 #[.int .i64 t, .int .i64 c] (.int .i64 (over t c)) w := by
  have hb := fun (k : Nat) (hk : k ≤ 2) => ovk_bd t c hk
  have hp := ovp_bd t c
  have ht' := ht
  have hc' := hc
  unfold pixP at ht' hc'
  (first | apply SYields.mk | apply SYieldsF.mk | skip); refine s_enter Tryz.func185 rfl Tryz.ntmps185 rfl ?_
  repeat' (first | exact rfl | (apply kO; (first | exact ov_pure rfl | (apply kOBin; (first | exact aBin | exact (ov_sub rfl rfl (by have := hp 0; omega)) | exact (ov_shlN 8 256 (by decide) (by decide) rfl rfl (by have := hb j (by omega); omega)) | exact (ov_orS 8 (by decide) rfl rfl (by have := hb j (by omega); omega) (by have := hp ((j : Int) + 1); omega)) | exact (ov_add rfl rfl (by have := hb j (by omega); have := hp ((j : Int) + 1); omega)))) | (apply kOCall; (first | (apply kCallF; (first | exact (ov_call rfl (fun w hw => c_isPixel _ w)) | exact (ov_call rfl (fun w hw => c_channel _ _ w (by omega))) | exact (ov_call rfl (fun w hw => c_ipart _ _ w)))) | (apply kCallB; (first | exact aBlt | exact aLenR)))) | (apply kOLoad; (first | exact aLdF | exact aLdR)) | exact ov_fieldAddr rfl | (apply kOIdx; (first | exact aIdx)) | exact aRest | exact aNew | exact (ov_field1 (ft := 31) rfl rfl rfl rfl))) | (refine kN ?_; (first | (refine kStore ?_; (first | refine s_store1 _ rfl rfl gpA rfl (by rfl) ?_ | refine s_storeS _ rfl rfl gpA rfl rfl (by rfl) ?_ | refine s_storeS _ rfl rfl gpA rfl (ones_img oiA) (by rfl) ?_)) | refine s_boxS rfl rfl (fun b hb => ?_) | refine s_allocS rfl (fun b hb => ?_) | refine s_box1 rfl rfl rfl (fun b hb => ?_) | refine s_alloc1 rfl rfl (fun b hb => ?_) | refine s_buildSlice0 rfl (fun b hb => ?_) | refine s_buildSlice rfl rfl rfl rfl rfl (fun b hb => ?_) | apply s_step)) | (refine kG ?_; (first | refine s_gyes rfl rfl rfl ?_ | refine s_gno rfl rfl rfl rfl rfl ?_ | ((first | refine s_split_d rfl rfl (fun h => ?_) (fun h => ?_) | refine s_split_n rfl rfl (fun h => ?_) (fun h => ?_)) <;> (try (first | contradiction | (exfalso; omega)))) | refine s_split_nb rfl rfl (fun h => ?_) (fun h => ?_) | refine s_split rfl rfl (fun h => ?_) (fun h => ?_))) | refine l_then ?_ | (refine kC ?_; (first | (refine c_loopV (ι := Nat) (fun j => j ≤ 3) (fun j => [(6, .int .i64 (ovk t c j)), (7, .int .i64 ((j : Int) + 1))]) (fun _ => []) (fun j => 3 - j) 0 (by omega) rfl (fun _ => rfl) ⟨rfl, rfl, trivial⟩ (fun w hw => hw) (fun j hj => ?_)) | refine c_seq ?_ | refine c_regionN rfl ?_ | refine c_ret ?_ | (refine kCond ?_; (first | refine c_cond_t rfl ?_ | refine c_cond_f rfl ?_ | ((first | refine c_cond_d rfl (fun h => ?_) (fun h => ?_) | refine c_cond_n rfl (fun h => ?_) (fun h => ?_)) <;> (try (first | contradiction | (exfalso; omega)))) | refine c_cond_nb rfl (fun h => ?_) (fun h => ?_) | refine c_cond rfl (fun h => ?_) (fun h => ?_))) | refine c_block ?_ | refine c_skip ?_ | refine c_exit ?_ | refine c_regionQN rfl rfl (by decide +kernel) ?_)) | apply s_stepQ | (refine kQG ?_; (first | refine s_gyesQ rfl rfl rfl ?_ | refine s_gnoQ rfl rfl rfl rfl rfl ?_ | ((first | refine s_splitQ_d rfl rfl (fun h => ?_) (fun h => ?_) | refine s_splitQ_n rfl rfl (fun h => ?_) (fun h => ?_)) <;> (try (first | contradiction | (exfalso; omega)))) | refine s_splitQ_nb rfl rfl (fun h => ?_) (fun h => ?_) | refine s_splitQ rfl rfl (fun h => ?_) (fun h => ?_))) | refine lQ_then ?_ | refine lQ_ends ?_ | (refine kE ?_; (first | refine e_then_r ?_ | refine e_block_r ?_ | refine e_then_n ?_ | refine e_then_x ?_ | refine e_block_n ?_ | refine e_block_x ?_ | refine e_block_y rfl ?_)) | refine l_ends ?_)
  · exact e_round (j + 1) (by omega) ⟨slook_to rfl (vint_to (by rw [ovk_succ]; omega)), slook_to rfl (vint_to (by push_cast; rfl)), (by repeat' first | exact trivial | refine ⟨rfl, ?_⟩)⟩ (fun w hw => hw) (by omega)
  · obtain rfl : j = 3 := by omega
    exact s_leave1 rfl rfl (fun w hw => ⟨ret_int (ovk_three ht hc), hw.below⟩)
theorem c_sover (t c : Int) (w : World) (ht : pixP t) (hc : pixP c) : SYields Tryz.prog 101 #[.int .i64 t, .int .i64 c] (.int .i64 (over t c)) w := by
  have hb := fun (k : Nat) (hk : k ≤ 2) => ovk_bd t c hk
  have hp := ovp_bd t c
  have ht' := ht
  have hc' := hc
  unfold pixP at ht' hc'
  (first | apply SYields.mk | apply SYieldsF.mk | skip); refine s_enter Tryz.func101 rfl Tryz.ntmps101 rfl ?_
  repeat' (first | exact rfl | (apply kO; (first | exact ov_pure rfl | (apply kOBin; (first | exact aBin | exact (ov_sub rfl rfl (by have := hp 0; omega)) | exact (ov_shlN 8 256 (by decide) (by decide) rfl rfl (by have := hb j (by omega); omega)) | exact (ov_orS 8 (by decide) rfl rfl (by have := hb j (by omega); omega) (by have := hp ((j : Int) + 1); omega)) | exact (ov_add rfl rfl (by have := hb j (by omega); have := hp ((j : Int) + 1); omega)))) | (apply kOCall; (first | (apply kCallF; (first | exact (ov_call rfl (fun w hw => c_l04Pixel _ w)) | exact (ov_call rfl (fun w hw => c_schannelIn _ _ w (by omega) (by omega))) | exact (ov_call rfl (fun w hw => c_spart _ _ w)))) | (apply kCallB; (first | exact aBlt | exact aLenR)))) | (apply kOLoad; (first | exact aLdF | exact aLdR)) | exact ov_fieldAddr rfl | (apply kOIdx; (first | exact aIdx)) | exact aRest | exact aNew | exact (ov_field1 (ft := 31) rfl rfl rfl rfl))) | (refine kN ?_; (first | (refine kStore ?_; (first | refine s_store1 _ rfl rfl gpA rfl (by rfl) ?_ | refine s_storeS _ rfl rfl gpA rfl rfl (by rfl) ?_ | refine s_storeS _ rfl rfl gpA rfl (ones_img oiA) (by rfl) ?_)) | refine s_boxS rfl rfl (fun b hb => ?_) | refine s_allocS rfl (fun b hb => ?_) | refine s_box1 rfl rfl rfl (fun b hb => ?_) | refine s_alloc1 rfl rfl (fun b hb => ?_) | refine s_buildSlice0 rfl (fun b hb => ?_) | refine s_buildSlice rfl rfl rfl rfl rfl (fun b hb => ?_) | apply s_step)) | (refine kG ?_; (first | refine s_gyes rfl rfl rfl ?_ | refine s_gno rfl rfl rfl rfl rfl ?_ | ((first | refine s_split_d rfl rfl (fun h => ?_) (fun h => ?_) | refine s_split_n rfl rfl (fun h => ?_) (fun h => ?_)) <;> (try (first | contradiction | (exfalso; omega)))) | refine s_split_nb rfl rfl (fun h => ?_) (fun h => ?_) | refine s_split rfl rfl (fun h => ?_) (fun h => ?_))) | refine l_then ?_ | (refine kC ?_; (first | (refine c_loopV (ι := Nat) (fun j => j ≤ 3) (fun j => [(6, .int .i64 (ovk t c j)), (7, .int .i64 ((j : Int) + 1))]) (fun _ => []) (fun j => 3 - j) 0 (by omega) rfl (fun _ => rfl) ⟨rfl, rfl, trivial⟩ (fun w hw => hw) (fun j hj => ?_)) | refine c_seq ?_ | refine c_regionN rfl ?_ | refine c_ret ?_ | (refine kCond ?_; (first | refine c_cond_t rfl ?_ | refine c_cond_f rfl ?_ | ((first | refine c_cond_d rfl (fun h => ?_) (fun h => ?_) | refine c_cond_n rfl (fun h => ?_) (fun h => ?_)) <;> (try (first | contradiction | (exfalso; omega)))) | refine c_cond_nb rfl (fun h => ?_) (fun h => ?_) | refine c_cond rfl (fun h => ?_) (fun h => ?_))) | refine c_block ?_ | refine c_skip ?_ | refine c_exit ?_ | refine c_regionQN rfl rfl (by decide +kernel) ?_)) | apply s_stepQ | (refine kQG ?_; (first | refine s_gyesQ rfl rfl rfl ?_ | refine s_gnoQ rfl rfl rfl rfl rfl ?_ | ((first | refine s_splitQ_d rfl rfl (fun h => ?_) (fun h => ?_) | refine s_splitQ_n rfl rfl (fun h => ?_) (fun h => ?_)) <;> (try (first | contradiction | (exfalso; omega)))) | refine s_splitQ_nb rfl rfl (fun h => ?_) (fun h => ?_) | refine s_splitQ rfl rfl (fun h => ?_) (fun h => ?_))) | refine lQ_then ?_ | refine lQ_ends ?_ | (refine kE ?_; (first | refine e_then_r ?_ | refine e_block_r ?_ | refine e_then_n ?_ | refine e_then_x ?_ | refine e_block_n ?_ | refine e_block_x ?_ | refine e_block_y rfl ?_)) | refine l_ends ?_)
  · exact e_round (j + 1) (by omega) ⟨slook_to rfl (vint_to (by rw [ovk_succ]; omega)), slook_to rfl (vint_to (by push_cast; rfl)), (by repeat' first | exact trivial | refine ⟨rfl, ?_⟩)⟩ (fun w hw => hw) (by omega)
  · obtain rfl : j = 3 := by omega
    exact s_leave1 rfl rfl (fun w hw => ⟨ret_int (ovk_three ht hc), hw.below⟩)
theorem c_inewImage (p q r : Int) (W : World) (hp : 1 ≤ p ∧ p ≤ 16) (hq : 1 ≤ q ∧ q ≤ 16) (hr : pixP r) : SYieldsF Tryz.prog 63 #[.int .i64 p, .int .i64 q, .int .i64 r] (fun u H => OImg u ⟨p, q, List.replicate (p * q).toNat r⟩ H) W := by
  have hwh := side_mul (w := p) (h := q) ⟨hp.1, hp.2, hq.1, hq.2⟩
  have hr' := hr
  unfold pixP at hr'
  (first | apply SYields.mk | apply SYieldsF.mk | skip); refine s_enter Tryz.func63 rfl Tryz.ntmps63 rfl ?_
  repeat' (first | exact rfl | (apply kO; (first | exact ov_pure rfl | (apply kOBin; (first | exact aBin)) | (apply kOCall; (first | (apply kCallF; (first | exact (ov_call rfl (fun w hw => c_isSide _ w)) | exact (ov_call rfl (fun w hw => c_isPixel _ w)))) | (apply kCallB; (first | exact aBlt | exact aLenR)))) | (apply kOLoad; (first | exact aLdF | exact aLdR)) | exact ov_fieldAddr rfl | (apply kOIdx; (first | exact aIdx)) | exact aRest | exact aNew | exact (ov_field1 (ft := 31) rfl rfl rfl rfl))) | (refine kN ?_; (first | (refine kCall ?_; (first | (refine kWFn 143 ?_; (refine s_callF (fun u H => OInts 3 u (List.replicate (p * q).toNat r) H) rfl (fun w hw => c_repeat _ r (p * q) w (OInts.reads (OInts.whole 3 _ [r] (Nat.le_of_ble_eq_true rfl)) (hfA hw)) (by omega)) rfl (fun u H hu => ?_); have f4 := hu.form; obtain ⟨ga, gc, rfl⟩ := f4)) | apply s_step)) | (refine kStore ?_; (first | refine s_store1 _ rfl rfl gpA rfl (by rfl) ?_ | refine s_storeS _ rfl rfl gpA rfl rfl (by rfl) ?_ | refine s_storeS _ rfl rfl gpA rfl (ones_img oiA) (by rfl) ?_)) | refine s_boxS rfl rfl (fun b hb => ?_) | refine s_allocS rfl (fun b hb => ?_) | refine s_box1 rfl rfl rfl (fun b hb => ?_) | refine s_alloc1 rfl rfl (fun b hb => ?_) | refine s_buildSlice0 rfl (fun b hb => ?_) | refine s_buildSlice rfl rfl rfl rfl rfl (fun b hb => ?_) | apply s_step)) | (refine kG ?_; (first | refine s_gyes rfl rfl rfl ?_ | refine s_gno rfl rfl rfl rfl rfl ?_ | ((first | refine s_split_d rfl rfl (fun h => ?_) (fun h => ?_) | refine s_split_n rfl rfl (fun h => ?_) (fun h => ?_)) <;> (try (first | contradiction | (exfalso; omega)))) | refine s_split_nb rfl rfl (fun h => ?_) (fun h => ?_) | refine s_split rfl rfl (fun h => ?_) (fun h => ?_))) | refine l_then ?_ | (refine kC ?_; (first | refine c_seq ?_ | refine c_regionN rfl ?_ | refine c_ret ?_ | (refine kCond ?_; (first | refine c_cond_t rfl ?_ | refine c_cond_f rfl ?_ | ((first | refine c_cond_d rfl (fun h => ?_) (fun h => ?_) | refine c_cond_n rfl (fun h => ?_) (fun h => ?_)) <;> (try (first | contradiction | (exfalso; omega)))) | refine c_cond_nb rfl (fun h => ?_) (fun h => ?_) | refine c_cond rfl (fun h => ?_) (fun h => ?_))) | refine c_block ?_ | refine c_skip ?_ | refine c_exit ?_ | refine c_regionQN rfl rfl (by decide +kernel) ?_)) | apply s_stepQ | (refine kQG ?_; (first | refine s_gyesQ rfl rfl rfl ?_ | refine s_gnoQ rfl rfl rfl rfl rfl ?_ | ((first | refine s_splitQ_d rfl rfl (fun h => ?_) (fun h => ?_) | refine s_splitQ_n rfl rfl (fun h => ?_) (fun h => ?_)) <;> (try (first | contradiction | (exfalso; omega)))) | refine s_splitQ_nb rfl rfl (fun h => ?_) (fun h => ?_) | refine s_splitQ rfl rfl (fun h => ?_) (fun h => ?_))) | refine lQ_then ?_ | refine lQ_ends ?_ | (refine kE ?_; (first | refine e_then_r ?_ | refine e_block_r ?_ | refine e_then_n ?_ | refine e_then_x ?_ | refine e_block_n ?_ | refine e_block_x ?_ | refine e_block_y rfl ?_)) | refine l_ends ?_)
  all_goals (refine s_leaveSF rfl rfl rfl fwA (fun w hw => ⟨_, _, rfl, ⟨_, rfl, hu⟩, hw.toFresh (H := H) gpA⟩))
end Go.Proofs.YtfmjeakcfmmkfaaGreat
/-
  Slices of plain cells: rectangles, truth values. Regions.
-/
set_option linter.unusedVariables false
namespace Go.Proofs.YtfmjeakcfmmkfaaGreat
open Go Sx
attribute [local irreducible] Exit.then Exit.inBlock bodyPost
section
variable {α : Type} {c : α → List Value} {k : Nat} {T : TypeId}
def OVs (c : α → List Value) (k : Nat) (T : TypeId) (v : Value) (l : List α) (H : SPiece) : Prop := OVec k T v l.length (l.flatMap c) H
def RVs (c : α → List Value) (k : Nat) (d : α) (w : World) (v : Value) (l : List α) : Prop := RRow w v k l.length (fun i => c (l.getD i d))
theorem flatMap_range (d : α) : ∀ l : List α, l.flatMap c = (List.range l.length).flatMap (fun i => c (l.getD i d))
  | [] => rfl
  | x :: l => by
    have := flatMap_range d l
    rw [List.length_cons, List.range_succ_eq_map, List.flatMap_cons, List.flatMap_cons, List.flatMap_map, this]
    rfl
theorem OVs.reads (d : α) (hc : ∀ a, (c a).length = k) {v : Value} {l : List α} {H : SPiece} (h : OVs c k T v l H) {w : World} (hw : Holds w H) : RVs c k d w v l :=
  OVec.reads h hw (Nat.le_trans (OVec.le h) (by decide)) (fun i hi => hc _) (flatMap_range d l)
theorem OVs.form {v : Value} {l : List α} {H : SPiece} (h : OVs c k T v l H) : ∃ a q, v = .slice a l.length q := by
  have key : ∀ {n : Nat} {xs : List Value}, OVec k T v n xs H → ∃ a q, v = .slice a n q := by
    intro n xs hh
    cases hh with
    | nil => exact ⟨_, _, rfl⟩
    | blk b n cap xs r h1 h2 h3 h4 => exact ⟨_, _, rfl⟩
  exact key h
theorem OVs.len {v : Value} {l : List α} {H : SPiece} (h : OVs c k T v l H) : l.length ≤ maxLen := OVec.le h
theorem RVs.keep {d : α} {w w' : World} {v : Value} {l : List α} (h : RVs c k d w v l) (hw : ∀ a u, w.cell? a = some u → w'.cell? a = some u) : RVs c k d w' v l := RRow.keep h hw
theorem RVs.form {d : α} {w : World} {v : Value} {l : List α} (h : RVs c k d w v l) : ∃ a q, v = .slice a l.length q := by
  obtain ⟨a, q, e, _⟩ := RRow.form h; exact ⟨a, q, e⟩
theorem OVs.nil : OVs c k T (.slice none 0 0) ([] : List α) [] := OVec.nil
theorem OVs.empty (b : Nat) : OVs c k T (.slice (some ⟨b, 0, none⟩) 0 0) ([] : List α) [(b, srow [] T)] := by
  have := OVec.blk (k := k) (T := T) b 0 0 [] [] (by simp) (by simp) (Nat.le_refl _) (by decide)
  simpa [OVs] using this
theorem flatMap_length (hc : ∀ a, (c a).length = k) : ∀ l : List α, (l.flatMap c).length = l.length * k
  | [] => by simp
  | x :: l => by rw [List.flatMap_cons, List.length_append, hc, flatMap_length hc l, List.length_cons, Nat.succ_mul]; omega
theorem OVs.whole (hc : ∀ a, (c a).length = k) (b : Nat) (l : List α) (hl : l.length ≤ maxLen) : OVs c k T (.slice (some ⟨b, 0, none⟩) l.length l.length) l [(b, srow (l.flatMap c) T)] := by
  have := OVec.blk (k := k) (T := T) b l.length l.length (l.flatMap c) [] (flatMap_length hc l) (by simpa using flatMap_length hc l) (Nat.le_refl _) hl
  simpa [OVs] using this
end
section
variable {P : Program} {n : Nat} {lo : SMut} {s : World} {ops : Array Oper} {Q : Exit → Act → World → Prop} {E : SEnv} {L : SHeap} {d : Nat} {ty : TypeId} {pos : String} {after : Array Edge} {rest : List Oper}
/-- append of a literal of one element -/
theorem s_appendVs (i i2 : Nat) {α : Type} {c : α → List Value} {kk : Nat} {t e : TypeId} {x y : Operand} {v z : Value} {by_ b2 : Nat} {l : List α} {a : α} {H : SPiece} {X U : TypeId} [hu : SUnd P t (.slice e)] [hinf : SInf P e z kk by_]
    (hx : sval E x = some v) (hy : sval E y = some (.slice (some ⟨b2, 0, none⟩) 1 1)) (hv : OVs c kk e v l H) (hL : getL L i = some H) (hL2 : getL L i2 = some [(b2, srow (c a) U)])
    (hc : (c a).length = kk) (h1 : oneCells (c a) = true) (hz : z.cells.size = kk) (hk0 : 0 < kk) (hb : l.length + 1 ≤ 100000000) (hby : by_ ≤ 1024) (hd : Nat.blt d n = true)
    (k : ∀ v' H', OVs c kk e v' (l ++ [a]) H' → WPL P n lo s ops Q rest ((d, v') :: E) (setL L i H')) :
    WPL P n lo s ops Q (⟨some d, .call { callee := .builtin .append, args := #[x, y], argTypes := #[t, t] }, X, pos, after, none⟩ :: rest) E L := by
  have hmul : (l.length + 1) * by_ ≤ 100000000 * 1024 := Nat.mul_le_mul hb hby
  refine s_append i (ys := c a) (m := 1) hx hy hv hL hz hk0 (by omega) h1 (fun w hw => ⟨_, _, rfl, fun j q hj => ?_⟩) (by omega) (by omega) hd (fun v' H' h => k v' H' ?_)
  · rw [Addr.add_lit, Nat.zero_add]; exact hw.captured hL2 j q hj
  · have := h
    unfold OVs
    rw [List.flatMap_append, List.length_append]
    simpa using this
end
/-! ### rectangles -/
abbrev ORects (v : Value) (l : List DRect) (H : SPiece) : Prop := OVs cRect 4 123 v l H
abbrev RRects (w : World) (v : Value) (l : List DRect) : Prop := RVs cRect 4 DRect.zero w v l
theorem ORects.rd {v : Value} {l : List DRect} {H : SPiece} (h : ORects v l H) {w : World} (hw : Holds w H) : RRects w v l := OVs.reads (c := cRect) (k := 4) DRect.zero (fun _ => rfl) h hw
abbrev vReg (v : Value) : Value := .agg #[v]
def OReg (u : Value) (l : List DRect) (H : SPiece) : Prop := ∃ v, u = vReg v ∧ ORects v l H
/-! ### truth values by places of the screen -/
def gvals (g : Grid) : List Bool := (List.range 256).map (fun q => g (q / 16) (q % 16))
theorem gvals_length (g : Grid) : (gvals g).length = 256 := by simp [gvals]
theorem gvals_get (g : Grid) {q : Nat} (h : q < 256) : (gvals g).getD q false = g (q / 16) (q % 16) := by
  simp [gvals, List.getD_eq_getElem?_getD, h]
theorem gvals_at (g : Grid) {y x : Nat} (hy : y < 16) (hx : x < 16) : (gvals g).getD (y * 16 + x) false = g y x := by
  rw [gvals_get g (by omega), show (y * 16 + x) / 16 = y by omega, show (y * 16 + x) % 16 = x by omega]
theorem gvals_congr {g h : Grid} (e : g.eqv h) : gvals g = gvals h := by
  apply List.map_congr_left
  intro q hq
  rw [List.mem_range] at hq
  exact e _ _ (by omega) (by omega)
def Grid.put (g : Grid) (y x : Nat) (v : Bool) : Grid := fun b a => if b = y ∧ a = x then v else g b a
theorem gvals_set (g : Grid) {y x : Nat} (hy : y < 16) (hx : x < 16) (v : Bool) : (gvals g).set (y * 16 + x) v = gvals (Grid.put g y x v) := by
  apply List.ext_getElem?
  intro q
  rw [List.getElem?_set]
  by_cases hq : q < 256
  · have e1 : (gvals g)[q]? = some (g (q / 16) (q % 16)) := by simp [gvals, hq]
    have e2 : (gvals (Grid.put g y x v))[q]? = some (Grid.put g y x v (q / 16) (q % 16)) := by simp [gvals, hq]
    rw [e1, e2, gvals_length]
    unfold Grid.put
    by_cases e : y * 16 + x = q
    · rw [if_pos e, if_pos (by omega), if_pos (by omega)]
    · rw [if_neg e, if_neg (by omega)]
  · rw [if_neg (by omega), List.getElem?_eq_none (by rw [gvals_length]; omega), List.getElem?_eq_none (by rw [gvals_length]; omega)]
abbrev cBool (v : Bool) : List Value := [.bool v]
abbrev OBools (v : Value) (l : List Bool) (H : SPiece) : Prop := OVs cBool 1 4 v l H
abbrev RBools (w : World) (v : Value) (l : List Bool) : Prop := RVs cBool 1 false w v l
theorem OBools.rd {v : Value} {l : List Bool} {H : SPiece} (h : OBools v l H) {w : World} (hw : Holds w H) : RBools w v l := OVs.reads (c := cBool) (k := 1) false (fun _ => rfl) h hw
def bvals (l : List Bool) : List Value := l.map Value.bool
theorem flatMap_cBool : ∀ l : List Bool, l.flatMap cBool = l.map Value.bool
  | [] => rfl
  | x :: l => by rw [List.flatMap_cons, flatMap_cBool l]; rfl
theorem OBools.full (b : Nat) {m : Nat} (q : Bool) (hm : m ≤ maxLen) : OBools (.slice (some ⟨b, 0, none⟩) m m) (List.replicate m q) [(b, srow (List.replicate m (.bool q)) 4)] := by
  have := OVs.whole (c := cBool) (k := 1) (T := 4) (fun _ => rfl) b (List.replicate m q) (by simpa using hm)
  rw [flatMap_cBool] at this
  simpa using this
section
variable {P : Program} {n : Nat} {lo : SMut} {s : World} {ops : Array Oper} {Q : Exit → Act → World → Prop} {E : SEnv} {L : SHeap} {d : Nat} {ty : TypeId} {pos : String} {after : Array Edge} {rest : List Oper}
/-- a store into an own slice of truth values -/
theorem s_setB (i : Nat) {T : TypeId} {x y : Operand} {v z : Value} {l : List Bool} {H : SPiece} {q : Bool} {k by_ : Nat} [hi : SInf P T z 1 by_]
    (hx : sval E x = some (.pointer (some ⟨(baseOf v).1, (baseOf v).2 + k * 1, none⟩))) (hy : sval E y = some (.bool q)) (hv : OBools v l H) (hL : getL L i = some H) (hk : k < l.length)
    (c : ∀ H', OBools v (l.set k q) H' → WPL P n lo s ops Q rest E (setL L i H')) : WPL P n lo s ops Q (⟨none, .store T x y, ty, pos, after, none⟩ :: rest) E L := by
  unfold OBools OVs at hv
  rw [flatMap_cBool] at hv
  generalize hxs : l.map Value.bool = xs at hv
  generalize hnn : l.length = nn at hv
  cases hv with
  | nil => omega
  | blk b n' cap xs r h1 h2 h3 h4 =>
    subst hxs
    subst hnn
    simp only [baseOf, Nat.zero_add, Nat.mul_one] at hx
    refine s_setR i hx hy hL rfl (by rw [List.length_append, List.length_map]; omega) ?_
    rw [List.set_append_left _ _ (by rw [List.length_map]; exact hk), ← List.map_set]
    refine c _ ?_
    have := OVec.blk (k := 1) (T := 4) b l.length cap ((l.set k q).map Value.bool) r (by rw [List.length_map, List.length_set]; omega) (by rw [List.length_append, List.length_map, List.length_set]; rw [List.length_append, List.length_map] at h2; omega) h3 h4
    unfold OBools OVs
    rw [flatMap_cBool, List.length_set]; exact this
end
end Go.Proofs.YtfmjeakcfmmkfaaGreat
/-
  The program's grids: sixteen rows as numbers. Rules for their bits.
-/
set_option linter.unusedVariables false
namespace Go.Proofs.YtfmjeakcfmmkfaaGreat
open Go Sx
attribute [local irreducible] Exit.then Exit.inBlock bodyPost
def rowV (g : Grid) (y : Nat) : Value := .int .i64 (Sx.bits (g y) 16 : Nat)
abbrev gcells (g : Grid) : List Value := [rowV g 0, rowV g 1, rowV g 2, rowV g 3, rowV g 4, rowV g 5, rowV g 6, rowV g 7, rowV g 8, rowV g 9, rowV g 10, rowV g 11, rowV g 12, rowV g 13, rowV g 14, rowV g 15]
abbrev gval (g : Grid) : Value := .agg #[rowV g 0, rowV g 1, rowV g 2, rowV g 3, rowV g 4, rowV g 5, rowV g 6, rowV g 7, rowV g 8, rowV g 9, rowV g 10, rowV g 11, rowV g 12, rowV g 13, rowV g 14, rowV g 15]
def gl (g : Grid) : List Value := (List.range 16).map (rowV g)
theorem gl_eq (g : Grid) : gl g = gcells g := rfl
theorem gl_get (g : Grid) {y : Nat} (h : y < 16) : (gl g)[y]? = some (rowV g y) := by simp [gl, h]
theorem rowV_congr {g h : Grid} (e : g.eqv h) {y : Nat} (hy : y < 16) : rowV g y = rowV h y := by
  unfold rowV; rw [bits_congr 16 (fun i hi => e y i hy hi)]
theorem gl_congr {g h : Grid} (e : g.eqv h) : gl g = gl h := List.map_congr_left (fun y hy => rowV_congr e (List.mem_range.1 hy))
theorem gval_congr {g h : Grid} (e : g.eqv h) : gval g = gval h := by
  have := gl_congr e
  rw [gl_eq, gl_eq] at this
  show Value.agg (gcells g).toArray = Value.agg (gcells h).toArray
  rw [this]
def Grid.row (g : Grid) (y : Nat) (f : Nat → Bool) : Grid := fun b => if b = y then f else g b
theorem gl_set (g : Grid) {y : Nat} (hy : y < 16) (f : Nat → Bool) : (gl g).set y (.int .i64 (Sx.bits f 16 : Nat)) = gl (Grid.row g y f) := by
  apply List.ext_getElem?
  intro q
  rw [List.getElem?_set]
  by_cases hq : q < 16
  · rw [gl_get g hq, gl_get _ hq]
    unfold rowV Grid.row
    by_cases e : y = q
    · subst e; simp [gl, hy]
    · have e' : ¬ q = y := fun hh => e hh.symm
      simp [e, e']
  · have h1 : (gl g).length ≤ q := by simp [gl]; omega
    have h2 : (gl (Grid.row g y f)).length ≤ q := by simp [gl]; omega
    rw [List.getElem?_eq_none h1, List.getElem?_eq_none h2, if_neg (by omega)]
theorem none_zero : gcells Grid.none = List.replicate 16 (Value.int .i64 0) := rfl
theorem bits16 (f : Nat → Bool) : 0 ≤ ((Sx.bits f 16 : Nat) : Int) ∧ ((Sx.bits f 16 : Nat) : Int) ≤ 65535 := by
  have := bits_lt f 16
  omega
section
variable {P : Program} {n : Nat} {lo : SMut} {s : World} {E : SEnv} {L : SHeap} {d : Option Tmp} {ty : TypeId} {pos : String} {after : Array Edge} {g0 : Option (Nat × Bool)} {x y : Operand} {xt yt : TypeId}
/-- an array of zeros -/
theorem ov_buildA0 {t e : TypeId} {len : Nat} {zl : List Value} {ze : Value} {k by_ ke be : Nat} [hu : SUnd P t (.array len e)] [hi : SInf P t (.agg zl.toArray) k by_] [he : SInf P e ze ke be] :
    SOpV P n lo s E L ⟨d, .build t #[], ty, pos, after, g0⟩ (.agg zl.toArray) :=
  SOpV.of_run fun a ha w hw => by
    obtain ⟨i1, h1, h2, h3, h4⟩ := hi.out
    obtain ⟨i2, q1, q2, q3, q4⟩ := he.out
    have hb : P.built t ([] : List (Nat × Value)) = some zl.toArray := by
      unfold Program.built
      simp only [h1, hu.h, h2, q1]
      rfl
    have := run_build w t #[] zl.toArray hb
    simp [execOp, this]
/-- a row of a grid in memory -/
theorem ov_ldG (g : Grid) {t : TypeId} {b i j : Nat} {td : TypeDesc} {T : TypeId} [hu : SUnd P t td] (hx : sval E x = some (.pointer (some ⟨b, 0 + j * 1, none⟩))) (hr : sisRow td = false) (hL : getL L i = some [(b, srow (gl g) T)]) (hj : j < 16) :
    SOpV P n lo s E L ⟨d, .load t x, ty, pos, after, g0⟩ (.int .i64 (Sx.bits (g j) 16 : Nat)) :=
  ov_load hx hr (getL_flat hL (List.mem_singleton.2 rfl)) (by rw [snth_eq, Nat.zero_add, Nat.mul_one]; exact gl_get g hj)
theorem ov_orG {f h : Nat → Bool} (hx : sval E x = some (.int .i64 (Sx.bits f 16 : Nat))) (hy : sval E y = some (.int .i64 (Sx.bits h 16 : Nat))) :
    SOpV P n lo s E L ⟨d, .binOp .or xt x y yt, ty, pos, after, g0⟩ (.int .i64 (Sx.bits (fun i => f i || h i) 16 : Nat)) := by
  have h1 := bits16 f
  have h2 := bits16 h
  have := ov_or (P := P) (n := n) (lo := lo) (s := s) (L := L) (d := d) (ty := ty) (pos := pos) (after := after) (g := g0) (xt := xt) (yt := yt) hx hy (by omega) (by omega)
  rw [Int.toNat_natCast, Int.toNat_natCast, bits_or] at this
  exact this
theorem ov_andG {f h : Nat → Bool} (hx : sval E x = some (.int .i64 (Sx.bits f 16 : Nat))) (hy : sval E y = some (.int .i64 (Sx.bits h 16 : Nat))) :
    SOpV P n lo s E L ⟨d, .binOp .and xt x y yt, ty, pos, after, g0⟩ (.int .i64 (Sx.bits (fun i => f i && h i) 16 : Nat)) := by
  have h1 := bits16 f
  have h2 := bits16 h
  have := ov_and (P := P) (n := n) (lo := lo) (s := s) (L := L) (d := d) (ty := ty) (pos := pos) (after := after) (g := g0) (xt := xt) (yt := yt) hx hy (by omega) (by omega)
  rw [Int.toNat_natCast, Int.toNat_natCast, bits_and] at this
  exact this
/-- one shifted left -/
theorem ov_bit {kj : IntKind} {j : Int} (hx : sval E x = some (.int .i64 1)) (hy : sval E y = some (.int kj j)) (hj : 0 ≤ j ∧ j ≤ 16) :
    SOpV P n lo s E L ⟨d, .binOp .shl xt x y yt, ty, pos, after, g0⟩ (.int .i64 ((2 ^ j.toNat : Nat) : Int)) := by
  have hp : (2 : Nat) ^ j.toNat ≤ 2 ^ 16 := Nat.pow_le_pow_right (by omega) (by omega)
  have e : (1 : Int) * 2 ^ j.toNat = ((2 ^ j.toNat : Nat) : Int) := by push_cast; omega
  have hm : ∀ m : Nat, m ≤ 2 ^ 16 → -9223372036854775808 ≤ (m : Int) ∧ (m : Int) ≤ 9223372036854775807 := fun m h => by omega
  have := ov_shl (P := P) (n := n) (lo := lo) (s := s) (L := L) (d := d) (ty := ty) (pos := pos) (after := after) (g := g0) (xt := xt) (yt := yt) hx hy (by omega) (by rw [e]; exact hm _ hp)
  rw [e] at this
  exact this
/-- is this bit there -/
theorem ov_andBit {f : Nat → Bool} {j : Nat} (hx : sval E x = some (.int .i64 (Sx.bits f 16 : Nat))) (hy : sval E y = some (.int .i64 ((2 ^ j : Nat) : Int))) (hj : j < 16) :
    SOpV P n lo s E L ⟨d, .binOp .and xt x y yt, ty, pos, after, g0⟩ (.int .i64 (if f j = true then ((2 ^ j : Nat) : Int) else 0)) := by
  have h1 := bits16 f
  have hp : (2 : Nat) ^ j ≤ 2 ^ 16 := Nat.pow_le_pow_right (by omega) (by omega)
  have hm : ∀ m : Nat, m ≤ 2 ^ 16 → 0 ≤ (m : Int) ∧ (m : Int) ≤ 9223372036854775807 := fun m h => by omega
  have := ov_and (P := P) (n := n) (lo := lo) (s := s) (L := L) (d := d) (ty := ty) (pos := pos) (after := after) (g := g0) (xt := xt) (yt := yt) hx hy (by omega) (hm _ hp)
  rw [Int.toNat_natCast, Int.toNat_natCast, bits_and_bit f hj] at this
  split at this
  · rename_i h; rw [if_pos h]; exact this
  · rename_i h; rw [if_neg h]; exact this
end
theorem bit_ne {p : Bool} {j : Nat} : (if p = true then ((2 ^ j : Nat) : Int) else 0) ≠ 0 ↔ p = true := by
  have h2 : 0 < 2 ^ j := Nat.pow_pos (by omega)
  cases p
  · simp
  · have hm : ∀ m : Nat, 0 < m → (m : Int) ≠ 0 := fun m h => by omega
    rw [if_pos rfl]
    exact ⟨fun _ => rfl, fun _ => hm _ h2⟩
end Go.Proofs.YtfmjeakcfmmkfaaGreat
/-
  The plain functions, continued: edits of scenes; damage. No program in sight.
-/
set_option linter.unusedVariables false
namespace Sx

/-! ### chapter 10: edits -/
structure DEdit where
  Kind : Int
  Id : Int
  A : Int
  B : Int
  buf : DImg
deriving DecidableEq
def DEdit.zero : DEdit := ⟨0, 0, 0, 0, DImg.zero⟩
instance : Inhabited DEdit := ⟨DEdit.zero⟩
theorem DEdit.eq {a b : DEdit} (h1 : a.Kind = b.Kind) (h2 : a.Id = b.Id) (h3 : a.A = b.A) (h4 : a.B = b.B) (h5 : a.buf = b.buf) : a = b := by cases a; cases b; simp_all
def added (e : DEdit) : DSurf := ⟨e.Id, e.A, e.B, 0, 0, 255, 0, true, e.buf⟩
/-- surface number k, edited in place -/
def touched (x : DSurf) (e : DEdit) : DSurf :=
  if e.Kind = 2 then { x with X := e.A, Y := e.B }
  else if e.Kind = 5 then { x with buf := e.buf }
  else if e.Kind = 6 then { x with Alpha := e.A }
  else if e.Kind = 7 then { x with Orient := e.A }
  else if e.Kind = 8 then { x with W := e.A, H := e.B }
  else { x with Visible := decide (e.A = 1) }
def editK (l : List DSurf) (e : DEdit) (k : Nat) : List DSurf :=
  if e.Kind = 1 then l.eraseIdx k
  else if e.Kind = 3 then l.eraseIdx k ++ [l.getD k default]
  else if e.Kind = 4 then l.getD k default :: l.eraseIdx k
  else l.set k (touched (l.getD k default) e)
/-- is there such a surface, if one is needed, and such a kind -/
def editable (s : DScene) (e : DEdit) : Prop := e.Kind = 0 ∨ e.Kind = 10 ∨ ((1 ≤ e.Kind ∧ e.Kind ≤ 9) ∧ 0 ≤ surfaceIndex s.ss e.Id)
instance (s : DScene) (e : DEdit) : Decidable (editable s e) := by unfold editable; infer_instance
def edited (s : DScene) (e : DEdit) : DScene :=
  if e.Kind = 0 then { s with ss := s.ss ++ [added e] }
  else if e.Kind = 10 then { s with Back := e.A }
  else { s with ss := editK s.ss e (surfaceIndex s.ss e.Id).toNat }
def doEditOk (s : DScene) (e : DEdit) : Prop := s.ok ∧ editable s e ∧ (edited s e).ok
instance (s : DScene) (e : DEdit) : Decidable (doEditOk s e) := by unfold doEditOk; infer_instance
def doEdit (s : DScene) (e : DEdit) : DScene := if doEditOk s e then edited s e else s
def doEdits (s : DScene) (l : List DEdit) : DScene := l.foldl doEdit s
def editCount : DScene → List DEdit → Nat
  | _, [] => 0
  | s, e :: l => (if doEditOk s e then 1 else 0) + editCount (doEdit s e) l
theorem editCount_le : ∀ (s : DScene) (l : List DEdit), editCount s l ≤ l.length
  | _, [] => Nat.le_refl _
  | s, e :: l => by have := editCount_le (doEdit s e) l; simp only [editCount, List.length_cons]; split <;> omega
theorem doEdit_ok {s : DScene} (h : s.ok) (e : DEdit) : (doEdit s e).ok := by
  unfold doEdit; split
  · rename_i hh; exact hh.2.2
  · exact h
theorem edited_size (s : DScene) (e : DEdit) : (edited s e).W = s.W ∧ (edited s e).H = s.H := by
  unfold edited; split
  · exact ⟨rfl, rfl⟩
  · split <;> exact ⟨rfl, rfl⟩
theorem doEdit_size (s : DScene) (e : DEdit) : (doEdit s e).W = s.W ∧ (doEdit s e).H = s.H := by
  unfold doEdit; split
  · exact edited_size s e
  · exact ⟨rfl, rfl⟩
theorem doEdits_ok : ∀ {s : DScene} (l : List DEdit), s.ok → (doEdits s l).ok
  | s, [], h => h
  | s, e :: l, h => doEdits_ok (s := doEdit s e) l (doEdit_ok h e)
theorem doEdits_size : ∀ (s : DScene) (l : List DEdit), (doEdits s l).W = s.W ∧ (doEdits s l).H = s.H
  | s, [] => ⟨rfl, rfl⟩
  | s, e :: l => by
    have h1 := doEdits_size (doEdit s e) l
    have h2 := doEdit_size s e
    exact ⟨h1.1.trans h2.1, h1.2.trans h2.2⟩
/-- the first j edits -/
theorem doEdits_take {s : DScene} {l : List DEdit} {j : Nat} (h : j < l.length) : doEdits s (l.take (j + 1)) = doEdit (doEdits s (l.take j)) (l.getD j default) := by
  unfold doEdits
  rw [List.take_add_one, List.getElem?_eq_getElem h, List.foldl_append]
  simp [List.getD_eq_getElem?_getD, List.getElem?_eq_getElem h]
theorem editCount_append : ∀ (s : DScene) (k l : List DEdit), editCount s (k ++ l) = editCount s k + editCount (doEdits s k) l
  | s, [], l => by simp [editCount, doEdits]
  | s, e :: k, l => by
    have := editCount_append (doEdit s e) k l
    simp only [List.cons_append, editCount]
    rw [this]
    show _ = _ + editCount (doEdits (doEdit s e) k) l
    omega
theorem editCount_take {s : DScene} {l : List DEdit} {j : Nat} (h : j < l.length) : editCount s (l.take (j + 1)) = editCount s (l.take j) + (if doEditOk (doEdits s (l.take j)) (l.getD j default) then 1 else 0) := by
  rw [List.take_add_one, List.getElem?_eq_getElem h, editCount_append]
  simp [editCount, List.getD_eq_getElem?_getD, List.getElem?_eq_getElem h]

/-! surfaces by their Ids -/
theorem ids_inj {l : List DSurf} (h : surfsOk l l.length) {i j : Nat} (hi : i < l.length) (hj : j < l.length) (e : (l.getD i default).Id = (l.getD j default).Id) : i = j := by
  rcases Nat.lt_trichotomy i j with h1 | h1 | h1
  · exact absurd e ((h j hj).2 i h1)
  · exact h1
  · exact absurd e.symm ((h i hi).2 j h1)
theorem mem_getD {l : List DSurf} {s : DSurf} : s ∈ l ↔ ∃ i, i < l.length ∧ l.getD i default = s := by
  rw [List.mem_iff_getElem]
  constructor
  · rintro ⟨i, hi, e⟩; exact ⟨i, hi, by rw [List.getD_eq_getElem?_getD, List.getElem?_eq_getElem hi]; exact e⟩
  · rintro ⟨i, hi, e⟩; exact ⟨i, hi, by rw [List.getD_eq_getElem?_getD, List.getElem?_eq_getElem hi] at e; exact e⟩
theorem surfaceIndex_at {l : List DSurf} (h : surfsOk l l.length) {i : Nat} (hi : i < l.length) : surfaceIndex l (l.getD i default).Id = i :=
  surfaceIndex_found hi (fun j hj => (h i hi).2 j hj) rfl
/-- a surface of one list in another one -/
theorem index_same {l : List DSurf} (h : surfsOk l l.length) (s : DSurf) : s ∈ l ↔ 0 ≤ surfaceIndex l s.Id ∧ l.getD (surfaceIndex l s.Id).toNat default = s := by
  constructor
  · intro hs
    obtain ⟨i, hi, e⟩ := mem_getD.1 hs
    have := surfaceIndex_at h hi
    rw [e] at this
    rw [this]
    exact ⟨by omega, by simpa using e⟩
  · rintro ⟨h1, h2⟩
    rcases surfaceIndex_bd l s.Id with ⟨h3, _⟩ | ⟨j, h3, h4, _⟩
    · omega
    · rw [h3] at h2; exact mem_getD.2 ⟨j, h4, by simpa using h2⟩
theorem index_nonneg {l : List DSurf} (id : Int) : 0 ≤ surfaceIndex l id ↔ ∃ i, i < l.length ∧ (l.getD i default).Id = id := by
  rcases surfaceIndex_bd l id with ⟨h1, h2⟩ | ⟨j, h1, h2, h3, _⟩
  · exact ⟨fun h => by omega, fun ⟨i, hi, e⟩ => absurd e (h2 i hi)⟩
  · exact ⟨fun _ => ⟨j, h2, h3⟩, fun _ => by omega⟩
theorem surfsOk_nodup {l : List DSurf} (h : surfsOk l l.length) : l.Nodup := by
  have hp : l.Pairwise (fun a b => a ≠ b) := by
    rw [List.pairwise_iff_getElem]
    intro i j hi hj hij e
    have := ids_inj h hi hj (by rw [List.getD_eq_getElem?_getD, List.getD_eq_getElem?_getD, List.getElem?_eq_getElem hi, List.getElem?_eq_getElem hj, e])
    omega
  exact hp

/-! ### chapter 13: damage -/
/-- at this point the scenes may differ -/
def damP (a b : DScene) (x y : Int) : Prop :=
  (∃ s, s ∈ a.ss ∧ s ∉ b.ss ∧ (surfRect s).has x y) ∨ (∃ s, s ∈ b.ss ∧ s ∉ a.ss ∧ (surfRect s).has x y) ∨
  (∃ i k : Nat, k < i ∧ i < b.ss.length ∧ 0 ≤ surfaceIndex a.ss (b.ss.getD i default).Id ∧ surfaceIndex a.ss (b.ss.getD i default).Id < surfaceIndex a.ss (b.ss.getD k default).Id ∧ (surfRect (b.ss.getD i default)).has x y ∧ (surfRect (b.ss.getD k default)).has x y)
def seenAt (l : List DSurf) (x y : Int) : List DSurf := l.filter (fun s => decide ((surfRect s).has x y))
theorem layers_seen (x y : Int) : ∀ (l : List DSurf) (b : Int), layers l x y b = layers (seenAt l x y) x y b
  | [], _ => rfl
  | s :: l, b => by
    unfold seenAt
    rw [layers_cons, List.filter_cons]
    by_cases h : (surfRect s).has x y
    · rw [if_pos (by simpa using h), layers_cons]; exact layers_seen x y l _
    · rw [if_neg (by simpa using h)]
      have : layer s x y b = b := by unfold layer; rw [if_neg h]
      rw [this]; exact layers_seen x y l b
theorem sorted_ext {α : Type} (f : α → Int) : ∀ (k l : List α), k.Pairwise (fun a b => f a < f b) → l.Pairwise (fun a b => f a < f b) → (∀ a, a ∈ k ↔ a ∈ l) → k = l
  | [], [], _, _, _ => rfl
  | [], b :: l, _, _, h => absurd ((h b).2 (List.mem_cons_self ..)) (by simp)
  | a :: k, [], _, _, h => absurd ((h a).1 (List.mem_cons_self ..)) (by simp)
  | a :: k, b :: l, hk, hl, h => by
    rw [List.pairwise_cons] at hk hl
    have hab : a = b := by
      rcases List.mem_cons.1 ((h a).1 (List.mem_cons_self ..)) with e | e
      · exact e
      · rcases List.mem_cons.1 ((h b).2 (List.mem_cons_self ..)) with e2 | e2
        · exact e2.symm
        · have := hk.1 b e2; have := hl.1 a e; omega
    subst hab
    rw [sorted_ext f k l hk.2 hl.2 (fun c => ?_)]
    constructor
    · intro hc
      rcases List.mem_cons.1 ((h c).1 (List.mem_cons_of_mem _ hc)) with e | e
      · subst e; have := hk.1 c hc; omega
      · exact e
    · intro hc
      rcases List.mem_cons.1 ((h c).2 (List.mem_cons_of_mem _ hc)) with e | e
      · subst e; have := hl.1 c hc; omega
      · exact e
theorem pairwise_getD {l : List DSurf} {R : DSurf → DSurf → Prop} (h : ∀ i j, i < j → j < l.length → R (l.getD i default) (l.getD j default)) : l.Pairwise R := by
  rw [List.pairwise_iff_getElem]
  intro i j hi hj hij
  have := h i j hij hj
  rwa [List.getD_eq_getElem?_getD, List.getD_eq_getElem?_getD, List.getElem?_eq_getElem hi, List.getElem?_eq_getElem hj] at this
/-- outside of the damage the scenes look the same -/
theorem seenAt_same {a b : DScene} (ha : a.ok) (hb : b.ok) {x y : Int} (h : ¬ damP a b x y) : seenAt a.ss x y = seenAt b.ss x y := by
  have hsa := ha.2.2.2.2
  have hsb := hb.2.2.2.2
  have h1 : ∀ s, s ∈ a.ss → (surfRect s).has x y → s ∈ b.ss := fun s hs hh => by
    by_cases e : s ∈ b.ss
    · exact e
    · exact absurd (.inl ⟨s, hs, e, hh⟩) h
  have h2 : ∀ s, s ∈ b.ss → (surfRect s).has x y → s ∈ a.ss := fun s hs hh => by
    by_cases e : s ∈ a.ss
    · exact e
    · exact absurd (.inr (.inl ⟨s, hs, e, hh⟩)) h
  refine sorted_ext (fun s => surfaceIndex a.ss s.Id) _ _ ?_ ?_ (fun s => ?_)
  · refine List.Pairwise.filter _ (pairwise_getD fun i j hij hj => ?_)
    rw [surfaceIndex_at hsa (by omega), surfaceIndex_at hsa hj]; omega
  · have hp : b.ss.Pairwise (fun s t => (surfRect s).has x y → (surfRect t).has x y → surfaceIndex a.ss s.Id < surfaceIndex a.ss t.Id) := by
      refine pairwise_getD fun i j hij hj hi' hj' => ?_
      have hm1 := h2 _ (mem_getD.2 ⟨i, by omega, rfl⟩) hi'
      have hm2 := h2 _ (mem_getD.2 ⟨j, hj, rfl⟩) hj'
      have n1 := (index_same hsa _).1 hm1
      have n2 := (index_same hsa _).1 hm2
      by_cases hlt : surfaceIndex a.ss (b.ss.getD j default).Id < surfaceIndex a.ss (b.ss.getD i default).Id
      · exact absurd (.inr (.inr ⟨j, i, hij, hj, n2.1, hlt, hj', hi'⟩)) h
      · have hne : surfaceIndex a.ss (b.ss.getD j default).Id ≠ surfaceIndex a.ss (b.ss.getD i default).Id := fun e => by
          have e2 := n1.2
          rw [← e, n2.2] at e2
          have := ids_inj hsb (i := i) (j := j) (by omega) hj (by rw [e2])
          omega
        omega
    unfold seenAt
    rw [List.pairwise_filter]
    exact hp.imp (fun hh h3 h4 => hh (of_decide_eq_true h3) (of_decide_eq_true h4))
  · unfold seenAt
    rw [List.mem_filter, List.mem_filter, decide_eq_true_iff]
    exact ⟨fun hh => ⟨h1 s hh.1 hh.2, hh.2⟩, fun hh => ⟨h2 s hh.1 hh.2, hh.2⟩⟩
theorem paintF_same {a b : DScene} (ha : a.ok) (hb : b.ok) (hB : a.Back = b.Back) {x y : Int} (h : ¬ damP a b x y) : paintF a x y = paintF b x y := by
  unfold paintF
  rw [layers_seen x y a.ss, layers_seen x y b.ss, seenAt_same ha hb h, hB]
theorem not_damP_self {a : DScene} (ha : a.ok) (x y : Int) : ¬ damP a a x y := by
  rintro (⟨s, h1, h2, _⟩ | ⟨s, h1, h2, _⟩ | ⟨i, k, h1, h2, h3, h4, _⟩)
  · exact h2 h1
  · exact h2 h1
  · rw [surfaceIndex_at ha.2.2.2.2 h2, surfaceIndex_at ha.2.2.2.2 (by omega)] at h4; omega
end Sx
/-
  The plain functions, continued: what is covered, what can be seen; painting only that. No program in sight.
-/
set_option linter.unusedVariables false
namespace Sx
/-- the screen of a scene -/
def scrR (s : DScene) : DRect := ⟨0, 0, s.W, s.H⟩
def scrG (s : DScene) : Grid := rectG (scrR s)
theorem scrR_ok {s : DScene} (h : s.ok) : (scrR s).ok := by
  have h1 := h.1; have h2 := h.2.1
  unfold scrR DRect.ok; dsimp only; omega
theorem scrG_iff {s : DScene} (h : s.ok) (y x : Nat) : scrG s y x = true ↔ (x : Int) < s.W ∧ (y : Int) < s.H := by
  show decide ((scrR s).has x y) = true ↔ _
  rw [decide_eq_true_iff]
  unfold DRect.has
  constructor
  · intro hh; have := hh.2; unfold scrR at this; dsimp only at this; omega
  · intro hh; exact ⟨scrR_ok h, by unfold scrR; dsimp only; omega⟩
/-- does this surface cover the point -/
def hides (q : DSurf) (y x : Nat) : Bool := decide (isOpaqueS q) && (surfRect q).holds y x
/-- covered by opaque surfaces from number n on -/
def coverG (s : DScene) (n : Nat) : Grid := Grid.and (fun y x => (s.ss.drop n).any (fun q => hides q y x)) (scrG s)
/-- where surface number k can be seen -/
def seenG (s : DScene) (k : Nat) : Grid := ((rectG (surfRect (s.ss.getD k default))).and (scrG s)).without (coverG s (k + 1))
theorem drop_any {l : List DSurf} {n : Nat} {f : DSurf → Bool} : (l.drop n).any f = true ↔ ∃ i, n ≤ i ∧ i < l.length ∧ f (l.getD i default) = true := by
  rw [List.any_eq_true]
  constructor
  · rintro ⟨q, hq, hf⟩
    obtain ⟨i, hi, e⟩ := List.mem_iff_getElem.1 hq
    rw [List.length_drop] at hi
    rw [List.getElem_drop] at e
    exact ⟨n + i, by omega, by omega, by rw [List.getD_eq_getElem?_getD, List.getElem?_eq_getElem (by omega), Option.getD_some, e]; exact hf⟩
  · rintro ⟨i, h1, h2, hf⟩
    refine ⟨l.getD i default, ?_, hf⟩
    rw [List.getD_eq_getElem?_getD, List.getElem?_eq_getElem h2, Option.getD_some]
    exact List.mem_iff_getElem.2 ⟨i - n, by rw [List.length_drop]; omega, by rw [List.getElem_drop]; congr 1; omega⟩
/-- no opaque surface from number k on covers the point -/
def bare (s : DScene) (k y x : Nat) : Prop := ∀ i, k ≤ i → i < s.ss.length → hides (s.ss.getD i default) y x = false
theorem coverG_iff {s : DScene} {k y x : Nat} (hs : scrG s y x = true) : coverG s k y x = false ↔ bare s k y x := by
  unfold coverG Grid.and
  rw [hs, Bool.and_true]
  constructor
  · intro h i h1 h2
    cases hf : hides (s.ss.getD i default) y x
    · rfl
    · have := (drop_any (f := fun q => hides q y x)).2 ⟨i, h1, h2, hf⟩
      rw [show (s.ss.drop k).any (fun q => hides q y x) = false from h] at this; cases this
  · intro h
    show (s.ss.drop k).any (fun q => hides q y x) = false
    cases hf : (s.ss.drop k).any (fun q => hides q y x)
    · rfl
    · obtain ⟨i, h1, h2, h3⟩ := drop_any.1 hf
      rw [h i h1 h2] at h3; cases h3
theorem seenG_bare {s : DScene} {k y x : Nat} (hs : scrG s y x = true) (hb : bare s (k + 1) y x) : seenG s k y x = (surfRect (s.ss.getD k default)).holds y x := by
  unfold seenG Grid.without
  rw [(coverG_iff hs).2 hb]
  unfold Grid.and rectG
  rw [hs]; simp
/-- only what can be seen is painted: after n surfaces -/
def pvTo (s : DScene) : Nat → Nat → Nat → Int
  | 0, _, _ => s.Back
  | n + 1, x, y => if seenG s n y x = true then over (pixOf (s.ss.getD n default) x y) (pvTo s n x y) else pvTo s n x y
theorem getD_ok {s : DScene} (h : s.ok) {k : Nat} (hk : k < s.ss.length) : (s.ss.getD k default).ok := (h.2.2.2.2 k hk).1
theorem pvTo_pix {s : DScene} (h : s.ok) : ∀ n x y, n ≤ s.ss.length → pixP (pvTo s n x y)
  | 0, _, _, _ => h.back
  | n + 1, x, y, hn => by
    have ih := pvTo_pix h n x y (by omega)
    unfold pvTo
    split
    · have := over_bd ((pictureOf_ok (getD_ok h (show n < s.ss.length by omega))).at_pix (x - (s.ss.getD n default).X) (y - (s.ss.getD n default).Y)) ih
      show pixP (over ((pictureOf (s.ss.getD n default)).at (x - (s.ss.getD n default).X) (y - (s.ss.getD n default).Y)) (pvTo s n x y))
      unfold pixP; omega
    · exact ih
theorem layer_holds (q : DSurf) (x y : Nat) (b : Int) : layer q x y b = if (surfRect q).holds y x = true then over (pixOf q x y) b else b := by
  unfold layer DRect.holds
  by_cases h : (surfRect q).has x y
  · rw [if_pos h, if_pos (decide_eq_true h)]
  · rw [if_neg h, if_neg (by rw [decide_eq_false h]; simp)]
theorem pv_paint {s : DScene} (h : s.ok) {x y : Nat} (hs : scrG s y x = true) : ∀ k, k ≤ s.ss.length → bare s k y x → pvTo s k x y = paintTo s k x y
  | 0, _, _ => rfl
  | k + 1, hk, hb => by
    have hlt : k < s.ss.length := by omega
    rw [paintTo_succ hlt, layer_holds]
    unfold pvTo
    rw [seenG_bare hs hb]
    by_cases hc : hides (s.ss.getD k default) y x = true
    · unfold hides at hc
      rw [Bool.and_eq_true, decide_eq_true_iff] at hc
      rw [if_pos hc.2, if_pos hc.2]
      exact over_opaque (pixOf_opaque hc.1 (of_decide_eq_true hc.2)) (pvTo_pix h k x y (by omega)) (paintTo_pix h k x y)
    · have hb' : bare s k y x := fun i h1 h2 => by
        by_cases e : i = k
        · rw [e]; simpa using hc
        · exact hb i (by omega) h2
      rw [pv_paint h hs k (by omega) hb']
theorem pv_all {s : DScene} (h : s.ok) {x y : Nat} (hs : scrG s y x = true) : pvTo s s.ss.length x y = paintF s x y := by
  rw [← paintTo_all]
  exact pv_paint h hs _ (Nat.le_refl _) (fun i h1 h2 => by omega)
/-! surfaces that cannot be seen can be left out -/
/-- the first k surfaces but those that keep leaves out -/
def keptTo (s : DScene) (keep : Nat → Bool) : Nat → List DSurf
  | 0 => []
  | k + 1 => keptTo s keep k ++ (if keep k = true then [s.ss.getD k default] else [])
theorem kept_ok {s : DScene} (h : s.ok) (keep : Nat → Bool) : ∀ k, k ≤ s.ss.length → ∀ q ∈ keptTo s keep k, q.ok
  | 0, _, q, hq => by cases hq
  | k + 1, hk, q, hq => by
    unfold keptTo at hq
    rcases List.mem_append.1 hq with hq | hq
    · exact kept_ok h keep k (by omega) q hq
    · split at hq
      · rw [List.mem_singleton] at hq; rw [hq]; exact getD_ok h (by omega)
      · cases hq
theorem kept_paint {s : DScene} (h : s.ok) {keep : Nat → Bool} (hkeep : ∀ k y x, k < s.ss.length → y < 16 → x < 16 → seenG s k y x = true → keep k = true) {x y : Nat} (hx : x < 16) (hy : y < 16) (hs : scrG s y x = true) :
    ∀ k, k ≤ s.ss.length → bare s k y x → layers (keptTo s keep k) x y s.Back = paintTo s k x y
  | 0, _, _ => rfl
  | k + 1, hk, hb => by
    have hlt : k < s.ss.length := by omega
    have hsb := seenG_bare (k := k) hs hb
    unfold keptTo
    rw [paintTo_succ hlt, layers_append]
    have hp1 : pixP (layers (keptTo s keep k) x y s.Back) := layers_pix (kept_ok h keep k (by omega)) h.back
    by_cases hc : hides (s.ss.getD k default) y x = true
    · unfold hides at hc
      rw [Bool.and_eq_true, decide_eq_true_iff] at hc
      rw [if_pos (hkeep k y x hlt hy hx (by rw [hsb]; exact hc.2))]
      show layer (s.ss.getD k default) x y _ = _
      rw [layer_holds, layer_holds, if_pos hc.2, if_pos hc.2]
      exact over_opaque (pixOf_opaque hc.1 (of_decide_eq_true hc.2)) hp1 (paintTo_pix h k x y)
    · have hb' : bare s k y x := fun i h1 h2 => by
        by_cases e : i = k
        · rw [e]; simpa using hc
        · exact hb i (by omega) h2
      rw [kept_paint h hkeep hx hy hs k (by omega) hb']
      by_cases hh : (surfRect (s.ss.getD k default)).holds y x = true
      · rw [if_pos (hkeep k y x hlt hy hx (by rw [hsb]; exact hh))]; rfl
      · rw [layer_holds, if_neg hh]
        split
        · show layer (s.ss.getD k default) x y _ = _
          rw [layer_holds, if_neg hh]
        · rfl
end Sx
/-
  The plain functions, continued: damage as regions; painting into an image; chains of buffers. No program in sight.
-/
set_option linter.unusedVariables false
namespace Sx
/-! ### chapter 13 -/
/-- the points of the damage -/
def damG (a b : DScene) : Grid := fun y x =>
  a.ss.any (fun s => !decide (s ∈ b.ss) && (surfRect s).holds y x) || b.ss.any (fun s => !decide (s ∈ a.ss) && (surfRect s).holds y x) ||
  (List.range b.ss.length).any (fun i => (List.range i).any (fun k => decide (0 ≤ surfaceIndex a.ss (b.ss.getD i default).Id ∧ surfaceIndex a.ss (b.ss.getD i default).Id < surfaceIndex a.ss (b.ss.getD k default).Id) && ((surfRect (b.ss.getD i default)).holds y x && (surfRect (b.ss.getD k default)).holds y x)))
theorem damG_iff (a b : DScene) (y x : Nat) : damG a b y x = true ↔ damP a b x y := by
  unfold damG damP DRect.holds
  simp only [Bool.or_eq_true, List.any_eq_true, Bool.and_eq_true, Bool.not_eq_true', decide_eq_true_iff, decide_eq_false_iff_not, List.mem_range]
  constructor
  · rintro ((⟨s, h1, h2, h3⟩ | ⟨s, h1, h2, h3⟩) | ⟨i, hi, k, hk, ⟨h1, h2⟩, h3, h4⟩)
    · exact .inl ⟨s, h1, h2, h3⟩
    · exact .inr (.inl ⟨s, h1, h2, h3⟩)
    · exact .inr (.inr ⟨i, k, hk, hi, h1, h2, h3, h4⟩)
  · rintro (⟨s, h1, h2, h3⟩ | ⟨s, h1, h2, h3⟩ | ⟨i, k, hk, hi, h1, h2, h3, h4⟩)
    · exact .inl (.inl ⟨s, h1, h2, h3⟩)
    · exact .inl (.inr ⟨s, h1, h2, h3⟩)
    · exact .inr ⟨i, hi, k, hk, ⟨h1, h2⟩, h3, h4⟩
def sameSize (a b : DScene) : Prop := a.W = b.W ∧ a.H = b.H
instance (a b : DScene) : Decidable (sameSize a b) := by unfold sameSize; infer_instance
def damageOf (a b : DScene) : List DRect :=
  if a.ok ∧ b.ok then (if sameSize a b ∧ a.Back = b.Back then canon ((damG a b).and (scrG b)) else canon (scrG b)) else []
theorem canon_empty {g : Grid} (h : g.eqv Grid.none) : canon g = [] := by
  rw [canon_congr h]; decide +kernel
theorem regionOk_nil : regionOk [] := by unfold regionOk; exact canon_empty (fun _ _ _ _ => rfl)
theorem damageOf_ok (a b : DScene) : regionOk (damageOf a b) := by
  unfold damageOf
  split
  · split
    · exact regionOk_canon _
    · exact regionOk_canon _
  · exact regionOk_nil
theorem scr_lt {s : DScene} (h : s.ok) {y x : Nat} (hs : scrG s y x = true) : y < 16 ∧ x < 16 := by
  have := (scrG_iff h y x).1 hs
  have h1 := h.1; have h2 := h.2.1
  omega
/-- outside of the damage two scenes of one size look the same -/
theorem damage_same {a b : DScene} (ha : a.ok) (hb : b.ok) (hsz : sameSize a b) {y x : Nat} (hs : scrG b y x = true) (hd : points (damageOf a b) y x = false) : paintF a x y = paintF b x y := by
  have hl := scr_lt hb hs
  unfold damageOf at hd
  rw [if_pos ⟨ha, hb⟩] at hd
  by_cases hB : sameSize a b ∧ a.Back = b.Back
  · rw [if_pos hB, points_canon _ y x hl.1 hl.2] at hd
    unfold Grid.and at hd
    rw [hs, Bool.and_true] at hd
    refine paintF_same ha hb hB.2 (fun hh => ?_)
    rw [(damG_iff a b y x).2 hh] at hd
    cases hd
  · rw [if_neg hB, points_canon _ y x hl.1 hl.2, hs] at hd; cases hd
theorem damage_self {a : DScene} (ha : a.ok) : damageOf a a = [] := by
  unfold damageOf
  rw [if_pos ⟨ha, ha⟩, if_pos ⟨⟨rfl, rfl⟩, rfl⟩]
  refine canon_empty (fun y x _ _ => ?_)
  unfold Grid.and Grid.none
  have : damG a a y x = false := by
    cases h : damG a a y x
    · rfl
    · exact absurd ((damG_iff a a y x).1 h) (not_damP_self ha x y)
  rw [this, Bool.false_and]
/-! ### copying the pixels of a region -/
def copyF (to fr : DImg) (g : Grid) (x y : Int) : Int := if g y.toNat x.toNat = true ∧ x < fr.W ∧ y < fr.H then fr.at x y else to.at x y
def copyRegion (to fr : DImg) (r : List DRect) : DImg := if to.ok ∧ fr.ok ∧ regionOk r then fimg (copyF to fr (points r)) to.W to.H else to
theorem copyRegion_ok {to fr : DImg} (h : to.ok) (r : List DRect) : (copyRegion to fr r).ok := by
  unfold copyRegion
  split
  · rename_i hh
    exact fimg_ok h.1 h.2.1 (fun x y _ _ _ _ => by unfold copyF; split <;> exact DImg.ok.at_pix (by first | exact hh.2.1 | exact h) _ _)
  · exact h
theorem copyRegion_size (to fr : DImg) (r : List DRect) : (copyRegion to fr r).W = to.W ∧ (copyRegion to fr r).H = to.H := by
  unfold copyRegion; split <;> exact ⟨rfl, rfl⟩
theorem copyRegion_at {to fr : DImg} (ht : to.ok) (hf : fr.ok) {r : List DRect} (hr : regionOk r) (hw : to.W = fr.W) (hh : to.H = fr.H) {x y : Int} (hx : 0 ≤ x ∧ x < to.W) (hy : 0 ≤ y ∧ y < to.H) :
    (copyRegion to fr r).at x y = if points r y.toNat x.toNat = true then fr.at x y else to.at x y := by
  unfold copyRegion
  rw [if_pos ⟨ht, hf, hr⟩, fimg_at _ hx hy]
  unfold copyF
  by_cases h : points r y.toNat x.toNat = true
  · rw [if_pos ⟨h, by omega, by omega⟩, if_pos h]
  · rw [if_neg (fun e => h e.1), if_neg h]
def paintInto (i : DImg) (s : DScene) (r : List DRect) : DImg := if s.ok then copyRegion i (painted s) r else i
/-- repainting the damage turns one scene's image into the other's -/
theorem repaired {a b : DScene} (ha : a.ok) (hb : b.ok) (hsz : sameSize a b) : paintInto (painted a) b (damageOf a b) = painted b := by
  unfold paintInto
  rw [if_pos hb]
  have hp := painted_ok ha
  have hq := painted_ok hb
  have hw : (painted a).W = (painted b).W := hsz.1
  have hh : (painted a).H = (painted b).H := hsz.2
  have hcs := copyRegion_size (painted a) (painted b) (damageOf a b)
  refine DImg.ext' (copyRegion_ok hp _) hq (by rw [hcs.1, hw]) (by rw [hcs.2, hh]) (fun x y h1 h2 h3 h4 => ?_)
  rw [hcs.1] at h2
  rw [hcs.2] at h4
  rw [copyRegion_at hp hq (damageOf_ok a b) hw hh ⟨h1, h2⟩ ⟨h3, h4⟩]
  split
  · rfl
  · rename_i hd
    have h2' : x < b.W := by rw [hw] at h2; exact h2
    have h4' : y < b.H := by rw [hh] at h4; exact h4
    have hs : scrG b y.toNat x.toNat = true := (scrG_iff hb _ _).2 ⟨by omega, by omega⟩
    have := damage_same ha hb hsz hs (by simpa using hd)
    rw [show ((x.toNat : Nat) : Int) = x by omega, show ((y.toNat : Nat) : Int) = y by omega] at this
    have e1 : (painted a).at x y = paintF a x y := fimg_at (paintF a) (w := a.W) (h := a.H) ⟨h1, h2⟩ ⟨h3, h4⟩
    have e2 : (painted b).at x y = paintF b x y := fimg_at (paintF b) (w := b.W) (h := b.H) ⟨h1, h2'⟩ ⟨h3, h4'⟩
    rw [e1, e2]; exact this
end Sx
/-
  The plain functions, continued: a rectangle filled row by row; one surface painted, as the program and as the reference do it. No program in sight.
-/
set_option linter.unusedVariables false
namespace Sx
/-- a rectangle is filled up to row j, and in that row up to place i -/
def boxTo (r : DRect) (f old : Int → Int → Int) (j i : Nat) (x y : Int) : Int :=
  if (r.X ≤ x ∧ x < r.X + r.W ∧ r.Y ≤ y) ∧ (y < r.Y + j ∨ (y = r.Y + j ∧ x < r.X + i)) then f x y else old x y
theorem boxTo_zero (r : DRect) (f old : Int → Int → Int) : boxTo r f old 0 0 = old := by
  funext x y; unfold boxTo; rw [if_neg (by omega)]
theorem boxTo_here (r : DRect) (f old : Int → Int → Int) (j i : Nat) : boxTo r f old j i (r.X + i) (r.Y + j) = old (r.X + i) (r.Y + j) := by
  unfold boxTo; rw [if_neg (by omega)]
theorem boxTo_next {r : DRect} {f old : Int → Int → Int} {j i : Nat} (hi : (i : Int) < r.W) : boxTo r f old j (i + 1) = fun x y => if x = r.X + i ∧ y = r.Y + j then f (r.X + i) (r.Y + j) else boxTo r f old j i x y := by
  funext x y
  by_cases e : x = r.X + i ∧ y = r.Y + j
  · obtain ⟨rfl, rfl⟩ := e
    rw [if_pos ⟨rfl, rfl⟩]
    unfold boxTo; rw [if_pos (by omega)]
  · rw [if_neg e]
    unfold boxTo
    by_cases e2 : (r.X ≤ x ∧ x < r.X + r.W ∧ r.Y ≤ y) ∧ (y < r.Y + j ∨ (y = r.Y + j ∧ x < r.X + i))
    · rw [if_pos e2, if_pos (by omega)]
    · rw [if_neg e2, if_neg (by omega)]
theorem boxTo_row {r : DRect} {f old : Int → Int → Int} {j i : Nat} (hi : r.W ≤ (i : Int)) : boxTo r f old j i = boxTo r f old (j + 1) 0 := by
  funext x y
  unfold boxTo
  by_cases e2 : (r.X ≤ x ∧ x < r.X + r.W ∧ r.Y ≤ y) ∧ (y < r.Y + j ∨ (y = r.Y + j ∧ x < r.X + i))
  · rw [if_pos e2, if_pos (by omega)]
  · rw [if_neg e2, if_neg (by omega)]
theorem boxTo_all {r : DRect} {f old : Int → Int → Int} {j : Nat} (hj : (j : Int) = r.H) (x y : Int) : boxTo r f old j 0 x y = if r.X ≤ x ∧ x < r.X + r.W ∧ r.Y ≤ y ∧ y < r.Y + r.H then f x y else old x y := by
  unfold boxTo
  by_cases e : r.X ≤ x ∧ x < r.X + r.W ∧ r.Y ≤ y ∧ y < r.Y + r.H
  · rw [if_pos e, if_pos (by omega)]
  · rw [if_neg e, if_neg (by omega)]
/-- nothing to fill -/
theorem boxTo_none {r : DRect} {f old : Int → Int → Int} {j : Nat} (h : r.W ≤ 0) : boxTo r f old j 0 = old := by
  funext x y; unfold boxTo; rw [if_neg (by omega)]
theorem has_iff {r : DRect} (h : r.ok) (x y : Int) : r.has x y ↔ r.X ≤ x ∧ x < r.X + r.W ∧ r.Y ≤ y ∧ y < r.Y + r.H := by
  unfold DRect.has; constructor
  · rintro ⟨_, h2⟩; omega
  · intro h2; exact ⟨h, by omega⟩
/-- a whole surface over an image of w by h pixels, as the reference paints it -/
theorem box_layer {s : DSurf} {w h : Int} (hw : 1 ≤ w ∧ w ≤ 16) (hh : 1 ≤ h ∧ h ≤ 16) (old : Int → Int → Int) {j : Nat} (hj : (j : Int) = ((surfRect s).inter ⟨0, 0, w, h⟩).H) {x y : Int} (hx : 0 ≤ x ∧ x < w) (hy : 0 ≤ y ∧ y < h) :
    boxTo ((surfRect s).inter ⟨0, 0, w, h⟩) (fun a b => over (pixOf s a b) (old a b)) old j 0 x y = layer s x y (old x y) := by
  have hb : (⟨0, 0, w, h⟩ : DRect).ok := by unfold DRect.ok; dsimp only; omega
  have hi := (DRect.inter_ok (surfRect_ok s) hb).1
  have h1 := inter_has (surfRect_ok s) hb x y
  have h2 := has_iff hi x y
  have h3 := has_iff hb x y
  dsimp only at h3
  rw [boxTo_all hj]
  unfold layer
  by_cases e : (surfRect s).has x y
  · rw [if_pos e, if_pos (h2.1 (h1.2 ⟨e, h3.2 (by omega)⟩))]
  · rw [if_neg e, if_neg (fun hh => e (h1.1 (h2.2 hh)).1)]
/-- a whole surface over an image, as the program paints it -/
theorem one_layer {s : DSurf} (hs : s.ok) (hv : s.Visible = true) {g : Grid} (old : Int → Int → Int) {x y : Int} (hg : inG g x y = true) : oneTo s g old ((surfSize s).1 * (surfSize s).2).toNat x y = layer s x y (old x y) := by
  rw [oneTo_all hs]
  unfold layer
  rw [surfRect_vis hs hv, hg]
  by_cases e : (rawRect s).has x y
  · rw [if_pos ⟨e, rfl⟩, if_pos e]
  · rw [if_neg (fun hh => e hh.1), if_neg e]
theorem hid_layer {s : DSurf} (hv : ¬ s.Visible = true) (x y b : Int) : layer s x y b = b := by
  unfold layer; rw [surfRect_hid hv, if_neg (zero_has x y)]
/-- how many points the program paints of the first k pixels -/
def hitN (s : DSurf) (g : Grid) (w h : Int) : Nat → Int
  | 0 => 0
  | k + 1 => hitN s g w h k + (if ((0 ≤ kx s k ∧ kx s k ≤ w - 1) ∧ (0 ≤ ky s k ∧ ky s k ≤ h - 1)) ∧ inG g (kx s k) (ky s k) = true then 1 else 0)
theorem hitN_bd (s : DSurf) (g : Grid) (w h : Int) : ∀ k : Nat, 0 ≤ hitN s g w h k ∧ hitN s g w h k ≤ k
  | 0 => ⟨Int.le_refl _, Int.le_refl _⟩
  | k + 1 => by have := hitN_bd s g w h k; unfold hitN; split <;> omega
theorem one_miss {s : DSurf} (hs : s.ok) {g : Grid} {old : Int → Int → Int} {w h : Int} (hw : 1 ≤ w) {k : Nat} (hk : k < ((surfSize s).1 * (surfSize s).2).toNat)
    (hn : ¬ (((0 ≤ kx s k ∧ kx s k ≤ w - 1) ∧ (0 ≤ ky s k ∧ ky s k ≤ h - 1)) ∧ inG g (kx s k) (ky s k) = true)) :
    mapTo (oneTo s g old (k + 1)) w (w * h).toNat = mapTo (oneTo s g old k) w (w * h).toNat ∧ hitN s g w h (k + 1) = hitN s g w h k := by
  refine ⟨mapTo_congr hw (fun x y h1 h2 h3 h4 => oneTo_miss hs g old hk x y (fun hh => hn ?_)), by unfold hitN; rw [if_neg hn, Int.add_zero]; cases k <;> rfl⟩
  obtain ⟨rfl, rfl, hg⟩ := hh
  exact ⟨⟨⟨h1, by omega⟩, h3, by omega⟩, hg⟩
theorem one_hit {s : DSurf} (hs : s.ok) {g : Grid} {old : Int → Int → Int} {w h : Int} {k : Nat} (hk : k < ((surfSize s).1 * (surfSize s).2).toNat)
    (hx : 0 ≤ kx s k ∧ kx s k ≤ w - 1) (hy : 0 ≤ ky s k ∧ ky s k ≤ h - 1) (hg : inG g (kx s k) (ky s k) = true) :
    (mapTo (oneTo s g old k) w (w * h).toNat).set (ky s k * w + kx s k).toNat (over ((pictureOf s).data.getD k 0) ((mapTo (oneTo s g old k) w (w * h).toNat).getD (ky s k * w + kx s k).toNat 0)) = mapTo (oneTo s g old (k + 1)) w (w * h).toNat
    ∧ hitN s g w h k + 1 = hitN s g w h (k + 1) := by
  constructor
  · rw [mapTo_at (oneTo s g old k) (w := w) (h := h) ⟨hx.1, by omega⟩ ⟨hy.1, by omega⟩, mapTo_set (oneTo s g old k) (w := w) (h := h) ⟨hx.1, by omega⟩ ⟨hy.1, by omega⟩]
    congr 1
    funext a b
    rw [oneTo_hit hs g old hk hg a b]
  · conv => rhs; unfold hitN
    rw [if_pos ⟨⟨hx, hy⟩, hg⟩]
theorem newPaint (s : DScene) : mapTo (paintTo s 0) s.W (s.W * s.H).toNat = List.replicate (s.W * s.H).toNat s.Back := by
  apply List.ext_getElem?
  intro q
  rw [List.getElem?_replicate]
  unfold mapTo
  rw [List.getElem?_map]
  by_cases e : q < (s.W * s.H).toNat
  · rw [List.getElem?_range e, if_pos e]; rfl
  · rw [List.getElem?_eq_none (by rw [List.length_range]; omega), if_neg e]; rfl
theorem screen_in {w h x y : Int} (hw : 1 ≤ w ∧ w ≤ 16) (hh : 1 ≤ h ∧ h ≤ 16) (hx : 0 ≤ x ∧ x < w) (hy : 0 ≤ y ∧ y < h) : inG (rectG ⟨0, 0, w, h⟩) x y = true := by
  unfold inG rectG DRect.holds DRect.has DRect.ok
  exact decide_eq_true (by dsimp only; omega)
theorem painted_step {s : DScene} (h : s.ok) {k : Nat} (hk : k < s.ss.length) (hv : (s.ss.getD k default).Visible = true) :
    mapTo (oneTo (s.ss.getD k default) (rectG ⟨0, 0, s.W, s.H⟩) (paintTo s k) ((surfSize (s.ss.getD k default)).1 * (surfSize (s.ss.getD k default)).2).toNat) s.W (s.W * s.H).toNat = mapTo (paintTo s (k + 1)) s.W (s.W * s.H).toNat :=
  mapTo_congr h.1.1 (fun x y h1 h2 h3 h4 => by rw [one_layer (getD_ok h hk) hv _ (screen_in h.1 h.2.1 ⟨h1, h2⟩ ⟨h3, h4⟩), paintTo_succ hk])
theorem painted_skip {s : DScene} {k : Nat} (hk : k < s.ss.length) (hv : ¬ (s.ss.getD k default).Visible = true) : paintTo s (k + 1) = paintTo s k := by
  funext x y; rw [paintTo_succ hk, hid_layer hv]
/-- a place of the part of a surface that is on the screen -/
theorem box_at {s : DSurf} (hs : s.ok) {w h : Int} (hw : 1 ≤ w ∧ w ≤ 16) (hh : 1 ≤ h ∧ h ≤ 16) {j i : Nat} (hi : (i : Int) < ((surfRect s).inter ⟨0, 0, w, h⟩).W) (hj : (j : Int) < ((surfRect s).inter ⟨0, 0, w, h⟩).H) :
    (0 ≤ ((surfRect s).inter ⟨0, 0, w, h⟩).X + i ∧ ((surfRect s).inter ⟨0, 0, w, h⟩).X + i < w) ∧ (0 ≤ ((surfRect s).inter ⟨0, 0, w, h⟩).Y + j ∧ ((surfRect s).inter ⟨0, 0, w, h⟩).Y + j < h)
    ∧ (0 ≤ ((surfRect s).inter ⟨0, 0, w, h⟩).X + i - (surfRect s).X ∧ ((surfRect s).inter ⟨0, 0, w, h⟩).X + i - (surfRect s).X < (pictureOf s).W) ∧ (0 ≤ ((surfRect s).inter ⟨0, 0, w, h⟩).Y + j - (surfRect s).Y ∧ ((surfRect s).inter ⟨0, 0, w, h⟩).Y + j - (surfRect s).Y < (pictureOf s).H)
    ∧ (surfRect s).X = s.X ∧ (surfRect s).Y = s.Y := by
  have hb : (⟨0, 0, w, h⟩ : DRect).ok := by unfold DRect.ok; dsimp only; omega
  have ho := (DRect.inter_ok (surfRect_ok s) hb).1
  have h0 : ((surfRect s).inter ⟨0, 0, w, h⟩).has (((surfRect s).inter ⟨0, 0, w, h⟩).X + i) (((surfRect s).inter ⟨0, 0, w, h⟩).Y + j) := ⟨ho, by omega⟩
  have h1 := (inter_has (surfRect_ok s) hb _ _).1 h0
  have h2 := h1.2.2
  dsimp only at h2
  by_cases hv : s.Visible = true
  · rw [surfRect_vis hs hv] at h1 ⊢
    have h3 := h1.1.2
    have hz := surfSize_pic hs
    rw [surfRect_vis hs hv] at h2
    unfold rawRect at h3 ⊢
    dsimp only at h3 ⊢
    unfold rawRect at h2
    rw [hz.1, hz.2]
    omega
  · rw [surfRect_hid hv] at h1; exact absurd h1.1 (zero_has _ _)
theorem pixOf_pix (s : DSurf) (x y : Int) : pixP (pixOf s x y) := by
  by_cases h : s.ok
  · exact (pictureOf_ok h).at_pix _ _
  · unfold pixOf pictureOf
    rw [if_neg h]
    unfold DImg.at DImg.zero pixP
    simp
theorem over_pixP {t b : Int} (ht : pixP t) (hb : pixP b) : pixP (over t b) := by
  have := over_bd ht hb; unfold pixP; omega
theorem boxTo_pix {r : DRect} {f old : Int → Int → Int} (hf : ∀ x y, pixP (f x y)) (ho : ∀ x y, pixP (old x y)) (j i : Nat) (x y : Int) : pixP (boxTo r f old j i x y) := by
  unfold boxTo; split
  · exact hf x y
  · exact ho x y
theorem box_bd {s : DSurf} {w h : Int} (hw : 1 ≤ w ∧ w ≤ 16) (hh : 1 ≤ h ∧ h ≤ 16) : ((-1000 ≤ ((surfRect s).inter ⟨0, 0, w, h⟩).X ∧ ((surfRect s).inter ⟨0, 0, w, h⟩).X ≤ 1000) ∧ (-1000 ≤ ((surfRect s).inter ⟨0, 0, w, h⟩).Y ∧ ((surfRect s).inter ⟨0, 0, w, h⟩).Y ≤ 1000)) ∧ (0 ≤ ((surfRect s).inter ⟨0, 0, w, h⟩).W ∧ ((surfRect s).inter ⟨0, 0, w, h⟩).W ≤ 16) ∧ (0 ≤ ((surfRect s).inter ⟨0, 0, w, h⟩).H ∧ ((surfRect s).inter ⟨0, 0, w, h⟩).H ≤ 16) := by
  have hb : (⟨0, 0, w, h⟩ : DRect).ok := by unfold DRect.ok; dsimp only; omega
  have ho := DRect.inter_ok (surfRect_ok s) hb
  have h1 := ho.1
  have h2 := ho.2.1
  have h3 := ho.2.2.1
  unfold DRect.ok at h1
  dsimp only at h2 h3
  omega
theorem box_step {s : DSurf} (hs : s.ok) {w h : Int} (hw : 1 ≤ w ∧ w ≤ 16) (hh : 1 ≤ h ∧ h ≤ 16) (old : Int → Int → Int) {j i : Nat} (hi : (i : Int) < ((surfRect s).inter ⟨0, 0, w, h⟩).W) (hj : (j : Int) < ((surfRect s).inter ⟨0, 0, w, h⟩).H) :
    (mapTo (boxTo ((surfRect s).inter ⟨0, 0, w, h⟩) (fun a c => over (pixOf s a c) (old a c)) old j i) w (w * h).toNat).set ((((surfRect s).inter ⟨0, 0, w, h⟩).Y + j) * w + (((surfRect s).inter ⟨0, 0, w, h⟩).X + i)).toNat (over ((pictureOf s).data.getD ((((surfRect s).inter ⟨0, 0, w, h⟩).Y + j - (surfRect s).Y) * (pictureOf s).W + (((surfRect s).inter ⟨0, 0, w, h⟩).X + i) - (surfRect s).X).toNat 0) ((mapTo (boxTo ((surfRect s).inter ⟨0, 0, w, h⟩) (fun a c => over (pixOf s a c) (old a c)) old j i) w (w * h).toNat).getD ((((surfRect s).inter ⟨0, 0, w, h⟩).Y + j) * w + (((surfRect s).inter ⟨0, 0, w, h⟩).X + i)).toNat 0))
    = mapTo (boxTo ((surfRect s).inter ⟨0, 0, w, h⟩) (fun a c => over (pixOf s a c) (old a c)) old j (i + 1)) w (w * h).toNat := by
  have hb := box_at hs hw hh hi hj
  rw [mapTo_at _ hb.1 hb.2.1, boxTo_here, mapTo_set _ hb.1 hb.2.1, boxTo_next hi]
  have e : (((surfRect s).inter ⟨0, 0, w, h⟩).Y + j - (surfRect s).Y) * (pictureOf s).W + (((surfRect s).inter ⟨0, 0, w, h⟩).X + i) - (surfRect s).X = (((surfRect s).inter ⟨0, 0, w, h⟩).Y + j - s.Y) * (pictureOf s).W + (((surfRect s).inter ⟨0, 0, w, h⟩).X + i - s.X) := by
    rw [hb.2.2.2.2.1, hb.2.2.2.2.2]; omega
  rw [e]
  rfl
theorem box_done {s : DScene} (h : s.ok) {k : Nat} (hk : k < s.ss.length) {j : Nat} (hj : (j : Int) = ((surfRect (s.ss.getD k default)).inter ⟨0, 0, s.W, s.H⟩).H) :
    mapTo (boxTo ((surfRect (s.ss.getD k default)).inter ⟨0, 0, s.W, s.H⟩) (fun a c => over (pixOf (s.ss.getD k default) a c) (paintTo s k a c)) (paintTo s k) j 0) s.W (s.W * s.H).toNat = mapTo (paintTo s (k + 1)) s.W (s.W * s.H).toNat :=
  mapTo_congr h.1.1 (fun x y h1 h2 h3 h4 => by rw [box_layer h.1 h.2.1 (paintTo s k) hj ⟨h1, h2⟩ ⟨h3, h4⟩, paintTo_succ hk])
end Sx
/-
  Contracts: images that are copied; images that a function gives.
-/
set_option linter.unusedVariables false
namespace Go.Proofs.YtfmjeakcfmmkfaaGreat
open Go Sx
attribute [local irreducible] Exit.then Exit.inBlock bodyPost
theorem c_clone (v : Value) (l : List Int) (w : World) (hv : RInts w v l) (hl : l.length ≤ 1000000000) : SYieldsF Tryz.prog 152 #[v] (fun u H => OInts 3 u l H) w := by
  have hv' := hv.form
  obtain ⟨a, c, rfl⟩ := hv'
  cases a with
  | none =>
    have h0 : l = [] := by
      obtain ⟨a, c', he, hf⟩ := RRow.form hv
      by_cases hn : 0 < l.length
      · obtain ⟨b, o, rfl⟩ := hf hn; cases he
      · exact List.eq_nil_of_length_eq_zero (by omega)
    (first | apply SYields.mk | apply SYieldsF.mk | skip); refine s_enter Tryz.func152 rfl Tryz.ntmps152 rfl ?_
    repeat' (first | exact rfl | (apply kO; (first | exact ov_pure rfl | (apply kOBin; (first | exact aBin)) | (apply kOCall; (first | (apply kCallB; (first | exact aBlt | exact aLenR)))) | (apply kOLoad; (first | exact aLdF | exact aLdR)) | exact ov_fieldAddr rfl | (apply kOIdx; (first | exact aIdx)) | exact aRest | exact aNew | exact (ov_field1 (ft := 31) rfl rfl rfl rfl))) | (refine kN ?_; (first | (refine kStore ?_; (first | refine s_store1 _ rfl rfl gpA rfl (by rfl) ?_ | refine s_storeS _ rfl rfl gpA rfl rfl (by rfl) ?_ | refine s_storeS _ rfl rfl gpA rfl (ones_img oiA) (by rfl) ?_)) | refine s_boxS rfl rfl (fun b hb => ?_) | refine s_allocS rfl (fun b hb => ?_) | refine s_box1 rfl rfl rfl (fun b hb => ?_) | refine s_alloc1 rfl rfl (fun b hb => ?_) | refine s_buildSlice0 rfl (fun b hb => ?_) | refine s_buildSlice rfl rfl rfl rfl rfl (fun b hb => ?_) | apply s_step)) | (refine kG ?_; (first | refine s_gyes rfl rfl rfl ?_ | refine s_gno rfl rfl rfl rfl rfl ?_ | ((first | refine s_split_d rfl rfl (fun h => ?_) (fun h => ?_) | refine s_split_n rfl rfl (fun h => ?_) (fun h => ?_)) <;> (try (first | contradiction | (exfalso; omega)))) | refine s_split_nb rfl rfl (fun h => ?_) (fun h => ?_) | refine s_split rfl rfl (fun h => ?_) (fun h => ?_))) | refine l_then ?_ | (refine kC ?_; (first | refine c_seq ?_ | refine c_regionN rfl ?_ | refine c_ret ?_ | (refine kCond ?_; (first | refine c_cond_t rfl ?_ | refine c_cond_f rfl ?_ | ((first | refine c_cond_d rfl (fun h => ?_) (fun h => ?_) | refine c_cond_n rfl (fun h => ?_) (fun h => ?_)) <;> (try (first | contradiction | (exfalso; omega)))) | refine c_cond_nb rfl (fun h => ?_) (fun h => ?_) | refine c_cond rfl (fun h => ?_) (fun h => ?_))) | refine c_block ?_ | refine c_skip ?_ | refine c_exit ?_ | refine c_regionQN rfl rfl (by decide +kernel) ?_)) | apply s_stepQ | (refine kQG ?_; (first | refine s_gyesQ rfl rfl rfl ?_ | refine s_gnoQ rfl rfl rfl rfl rfl ?_ | ((first | refine s_splitQ_d rfl rfl (fun h => ?_) (fun h => ?_) | refine s_splitQ_n rfl rfl (fun h => ?_) (fun h => ?_)) <;> (try (first | contradiction | (exfalso; omega)))) | refine s_splitQ_nb rfl rfl (fun h => ?_) (fun h => ?_) | refine s_splitQ rfl rfl (fun h => ?_) (fun h => ?_))) | refine lQ_then ?_ | refine lQ_ends ?_ | (refine kE ?_; (first | refine e_then_r ?_ | refine e_block_r ?_ | refine e_then_n ?_ | refine e_then_x ?_ | refine e_block_n ?_ | refine e_block_x ?_ | refine e_block_y rfl ?_)) | refine l_ends ?_)
    all_goals refine s_leave1 rfl rfl (fun w hw => ⟨_, [], rfl, ?_, hw.toFresh0⟩)
    all_goals (rw [h0]; exact OInts.nil _)
  | some A =>
    (first | apply SYields.mk | apply SYieldsF.mk | skip); refine s_enter Tryz.func152 rfl Tryz.ntmps152 rfl ?_
    repeat' (first | exact rfl | (apply kO; (first | exact ov_pure rfl | (apply kOBin; (first | exact aBin)) | (apply kOCall; (first | (apply kCallB; (first | exact aBlt | exact aLenR)))) | (apply kOLoad; (first | exact aLdF | exact aLdR)) | exact ov_fieldAddr rfl | (apply kOIdx; (first | exact aIdx)) | exact aRest | exact aNew | exact (ov_field1 (ft := 31) rfl rfl rfl rfl))) | (refine kN ?_; (first | (refine kCall ?_; (first | (refine kWApp ?_; (refine s_append 0 (ys := ivals l) (m := l.length) rfl rfl (OVec.empty 1 3 _) rfl rfl (by decide) (by simp [ivals]) (oneCells_ivals l) (fun w hw => ⟨_, _, rfl, RInts.src (hv.keep (hw.cells rfl))⟩) (by omega) (by omega) rfl (fun v' H' hv' => ?_))) | apply s_step)) | (refine kStore ?_; (first | refine s_store1 _ rfl rfl gpA rfl (by rfl) ?_ | refine s_storeS _ rfl rfl gpA rfl rfl (by rfl) ?_ | refine s_storeS _ rfl rfl gpA rfl (ones_img oiA) (by rfl) ?_)) | refine s_boxS rfl rfl (fun b hb => ?_) | refine s_allocS rfl (fun b hb => ?_) | refine s_box1 rfl rfl rfl (fun b hb => ?_) | refine s_alloc1 rfl rfl (fun b hb => ?_) | refine s_buildSlice0 rfl (fun b hb => ?_) | refine s_buildSlice rfl rfl rfl rfl rfl (fun b hb => ?_) | apply s_step)) | (refine kG ?_; (first | refine s_gyes rfl rfl rfl ?_ | refine s_gno rfl rfl rfl rfl rfl ?_ | ((first | refine s_split_d rfl rfl (fun h => ?_) (fun h => ?_) | refine s_split_n rfl rfl (fun h => ?_) (fun h => ?_)) <;> (try (first | contradiction | (exfalso; omega)))) | refine s_split_nb rfl rfl (fun h => ?_) (fun h => ?_) | refine s_split rfl rfl (fun h => ?_) (fun h => ?_))) | refine l_then ?_ | (refine kC ?_; (first | refine c_seq ?_ | refine c_regionN rfl ?_ | refine c_ret ?_ | (refine kCond ?_; (first | refine c_cond_t rfl ?_ | refine c_cond_f rfl ?_ | ((first | refine c_cond_d rfl (fun h => ?_) (fun h => ?_) | refine c_cond_n rfl (fun h => ?_) (fun h => ?_)) <;> (try (first | contradiction | (exfalso; omega)))) | refine c_cond_nb rfl (fun h => ?_) (fun h => ?_) | refine c_cond rfl (fun h => ?_) (fun h => ?_))) | refine c_block ?_ | refine c_skip ?_ | refine c_exit ?_ | refine c_regionQN rfl rfl (by decide +kernel) ?_)) | apply s_stepQ | (refine kQG ?_; (first | refine s_gyesQ rfl rfl rfl ?_ | refine s_gnoQ rfl rfl rfl rfl rfl ?_ | ((first | refine s_splitQ_d rfl rfl (fun h => ?_) (fun h => ?_) | refine s_splitQ_n rfl rfl (fun h => ?_) (fun h => ?_)) <;> (try (first | contradiction | (exfalso; omega)))) | refine s_splitQ_nb rfl rfl (fun h => ?_) (fun h => ?_) | refine s_splitQ rfl rfl (fun h => ?_) (fun h => ?_))) | refine lQ_then ?_ | refine lQ_ends ?_ | (refine kE ?_; (first | refine e_then_r ?_ | refine e_block_r ?_ | refine e_then_n ?_ | refine e_then_x ?_ | refine e_block_n ?_ | refine e_block_x ?_ | refine e_block_y rfl ?_)) | refine l_ends ?_)
    all_goals refine s_leave1 rfl rfl (fun w hw => ⟨_, _, rfl, ?_, hw.toFresh (i := 0) rfl⟩)
    all_goals simpa [OInts] using hv'
theorem c_copyImage (i : DImg) (e : Value) (w : World) (hv : RInts w e i.data) (hl : i.data.length ≤ 1000000000) : SYieldsF Tryz.prog 112 #[vImg i e] (fun u H => OImg u i H) w := by
  (first | apply SYields.mk | apply SYieldsF.mk | skip); refine s_enter Tryz.func112 rfl Tryz.ntmps112 rfl ?_
  repeat' (first | exact rfl | (apply kO; (first | exact ov_pure rfl | (apply kOBin; (first | exact aBin)) | (apply kOCall; (first | (apply kCallB; (first | exact aBlt | exact aLenR)))) | (apply kOLoad; (first | exact aLdF | exact aLdR)) | exact ov_fieldAddr rfl | (apply kOIdx; (first | exact aIdx)) | exact aRest | exact aNew | exact (ov_field1 (ft := 31) rfl rfl rfl rfl))) | (refine kN ?_; (first | (refine kCall ?_; (first | (refine kWFunc ?_; (refine s_callF (fun u H => OInts 3 u i.data H) rfl (fun w hw => c_clone _ _ w (riA hw) hl) rfl (fun u H hu => ?_); have f1 := hu.form; obtain ⟨_, _, rfl⟩ := f1)) | apply s_step)) | (refine kStore ?_; (first | refine s_store1 _ rfl rfl gpA rfl (by rfl) ?_ | refine s_storeS _ rfl rfl gpA rfl rfl (by rfl) ?_ | refine s_storeS _ rfl rfl gpA rfl (ones_img oiA) (by rfl) ?_)) | refine s_boxS rfl rfl (fun b hb => ?_) | refine s_allocS rfl (fun b hb => ?_) | refine s_box1 rfl rfl rfl (fun b hb => ?_) | refine s_alloc1 rfl rfl (fun b hb => ?_) | refine s_buildSlice0 rfl (fun b hb => ?_) | refine s_buildSlice rfl rfl rfl rfl rfl (fun b hb => ?_) | apply s_step)) | (refine kG ?_; (first | refine s_gyes rfl rfl rfl ?_ | refine s_gno rfl rfl rfl rfl rfl ?_ | ((first | refine s_split_d rfl rfl (fun h => ?_) (fun h => ?_) | refine s_split_n rfl rfl (fun h => ?_) (fun h => ?_)) <;> (try (first | contradiction | (exfalso; omega)))) | refine s_split_nb rfl rfl (fun h => ?_) (fun h => ?_) | refine s_split rfl rfl (fun h => ?_) (fun h => ?_))) | (refine kS ?_; (first | refine h_exec rfl ?_ | refine h_take_nil rfl rfl rfl ?_ | refine h_take_pick rfl rfl rfl ?_ | refine h_nil ?_ | refine h_alt ?_ ?_ | apply h_take)) | (refine kBack ?_; (first | refine h_back_last rfl ?_ | refine h_backN rfl subA ?_)) | refine l_then ?_ | (refine kC ?_; (first | (refine kReg 1 ?_; refine c_regionSN (SPlan.take 0 (SPlan.take 1 (SPlan.take 2 (SPlan.take 3 (SPlan.take 4 (SPlan.take 5 (SPlan.run 6 (SPlan.take 7 (SPlan.run 8 SPlan.done))))))))) (some 8) rfl rfl (by decide +kernel) ?_) | (refine kReg 1 ?_; refine c_regionSN (SPlan.take 0 (SPlan.take 1 (SPlan.take 2 (SPlan.take 3 (SPlan.take 4 (SPlan.take 5 (SPlan.run 6 (SPlan.take 7 (SPlan.run 8 SPlan.done))))))))) none rfl rfl (by decide +kernel) ?_) | refine c_seq ?_ | refine c_regionN rfl ?_ | refine c_ret ?_ | (refine kCond ?_; (first | refine c_cond_t rfl ?_ | refine c_cond_f rfl ?_ | ((first | refine c_cond_d rfl (fun h => ?_) (fun h => ?_) | refine c_cond_n rfl (fun h => ?_) (fun h => ?_)) <;> (try (first | contradiction | (exfalso; omega)))) | refine c_cond_nb rfl (fun h => ?_) (fun h => ?_) | refine c_cond rfl (fun h => ?_) (fun h => ?_))) | refine c_block ?_ | refine c_skip ?_ | refine c_exit ?_ | refine c_regionQN rfl rfl (by decide +kernel) ?_)) | apply s_stepQ | (refine kQG ?_; (first | refine s_gyesQ rfl rfl rfl ?_ | refine s_gnoQ rfl rfl rfl rfl rfl ?_ | ((first | refine s_splitQ_d rfl rfl (fun h => ?_) (fun h => ?_) | refine s_splitQ_n rfl rfl (fun h => ?_) (fun h => ?_)) <;> (try (first | contradiction | (exfalso; omega)))) | refine s_splitQ_nb rfl rfl (fun h => ?_) (fun h => ?_) | refine s_splitQ rfl rfl (fun h => ?_) (fun h => ?_))) | refine lQ_then ?_ | refine lQ_ends ?_ | (refine kE ?_; (first | refine e_then_r ?_ | refine e_block_r ?_ | refine e_then_n ?_ | refine e_then_x ?_ | refine e_block_n ?_ | refine e_block_x ?_ | refine e_block_y rfl ?_)) | refine l_ends ?_)
  all_goals (refine kE ?_; refine s_leaveSF rfl rfl rfl fwA (fun w hw => ?_))
  exact ⟨_, _, rfl, ⟨_, rfl, by assumption⟩, hw.toFresh (i := 0) rfl⟩
theorem c_l05Copy (i : DImg) (e : Value) (w : World) (hv : RInts w e i.data) (hl : i.data.length ≤ 1000000000) : SYieldsF Tryz.prog 109 #[vImg i e] (fun u H => OImg u i H) w := by
  have hv' := hv.form
  obtain ⟨a, c, rfl⟩ := hv'
  cases a with
  | none =>
    have h0 : i.data = [] := by
      obtain ⟨a, c', he, hf⟩ := RRow.form hv
      by_cases hn : 0 < i.data.length
      · obtain ⟨b, o, rfl⟩ := hf hn; cases he
      · exact List.eq_nil_of_length_eq_zero (by omega)
    have hc0 : i.data.length = 0 := by rw [h0]; rfl
    rw [show Value.slice none i.data.length c = .slice none 0 c by rw [hc0]]
    (first | apply SYields.mk | apply SYieldsF.mk | skip); refine s_enter Tryz.func109 rfl Tryz.ntmps109 rfl ?_
    repeat' (first | exact rfl | (apply kO; (first | exact ov_pure rfl | (apply kOBin; (first | exact aBin)) | (apply kOCall; (first | (apply kCallB; (first | exact aBlt | exact (ov_appendNil rfl rfl (by omega)) | exact aLenR)))) | (apply kOLoad; (first | exact aLdF | exact aLdR)) | exact ov_fieldAddr rfl | (apply kOIdx; (first | exact aIdx)) | exact aRest | exact aNew | exact (ov_field1 (ft := 31) rfl rfl rfl rfl))) | (refine kN ?_; (first | (refine kStore ?_; (first | refine s_store1 _ rfl rfl gpA rfl (by rfl) ?_ | refine s_storeS _ rfl rfl gpA rfl rfl (by rfl) ?_ | refine s_storeS _ rfl rfl gpA rfl (ones_img oiA) (by rfl) ?_)) | refine s_boxS rfl rfl (fun b hb => ?_) | refine s_allocS rfl (fun b hb => ?_) | refine s_box1 rfl rfl rfl (fun b hb => ?_) | refine s_alloc1 rfl rfl (fun b hb => ?_) | refine s_buildSlice0 rfl (fun b hb => ?_) | refine s_buildSlice rfl rfl rfl rfl rfl (fun b hb => ?_) | apply s_step)) | (refine kG ?_; (first | refine s_gyes rfl rfl rfl ?_ | refine s_gno rfl rfl rfl rfl rfl ?_ | ((first | refine s_split_d rfl rfl (fun h => ?_) (fun h => ?_) | refine s_split_n rfl rfl (fun h => ?_) (fun h => ?_)) <;> (try (first | contradiction | (exfalso; omega)))) | refine s_split_nb rfl rfl (fun h => ?_) (fun h => ?_) | refine s_split rfl rfl (fun h => ?_) (fun h => ?_))) | (refine kS ?_; (first | refine h_exec rfl ?_ | refine h_take_nil rfl rfl rfl ?_ | refine h_take_pick rfl rfl rfl ?_ | refine h_nil ?_ | refine h_alt ?_ ?_ | apply h_take)) | (refine kBack ?_; (first | refine h_back_last rfl ?_ | refine h_backN rfl subA ?_)) | refine l_then ?_ | (refine kC ?_; (first | (refine kReg 1 ?_; refine c_regionSN (SPlan.take 0 (SPlan.take 1 (SPlan.take 2 (SPlan.take 3 (SPlan.take 5 (SPlan.take 6 (SPlan.run 4 (SPlan.run 7 (SPlan.take 8 (SPlan.run 9 SPlan.done)))))))))) (some 9) rfl rfl (by decide +kernel) ?_) | (refine kReg 1 ?_; refine c_regionSN (SPlan.take 0 (SPlan.take 1 (SPlan.take 2 (SPlan.take 3 (SPlan.take 5 (SPlan.take 6 (SPlan.run 4 (SPlan.run 7 (SPlan.take 8 (SPlan.run 9 SPlan.done)))))))))) none rfl rfl (by decide +kernel) ?_) | refine c_seq ?_ | refine c_regionN rfl ?_ | refine c_ret ?_ | (refine kCond ?_; (first | refine c_cond_t rfl ?_ | refine c_cond_f rfl ?_ | ((first | refine c_cond_d rfl (fun h => ?_) (fun h => ?_) | refine c_cond_n rfl (fun h => ?_) (fun h => ?_)) <;> (try (first | contradiction | (exfalso; omega)))) | refine c_cond_nb rfl (fun h => ?_) (fun h => ?_) | refine c_cond rfl (fun h => ?_) (fun h => ?_))) | refine c_block ?_ | refine c_skip ?_ | refine c_exit ?_ | refine c_regionQN rfl rfl (by decide +kernel) ?_)) | apply s_stepQ | (refine kQG ?_; (first | refine s_gyesQ rfl rfl rfl ?_ | refine s_gnoQ rfl rfl rfl rfl rfl ?_ | ((first | refine s_splitQ_d rfl rfl (fun h => ?_) (fun h => ?_) | refine s_splitQ_n rfl rfl (fun h => ?_) (fun h => ?_)) <;> (try (first | contradiction | (exfalso; omega)))) | refine s_splitQ_nb rfl rfl (fun h => ?_) (fun h => ?_) | refine s_splitQ rfl rfl (fun h => ?_) (fun h => ?_))) | refine lQ_then ?_ | refine lQ_ends ?_ | (refine kE ?_; (first | refine e_then_r ?_ | refine e_block_r ?_ | refine e_then_n ?_ | refine e_then_x ?_ | refine e_block_n ?_ | refine e_block_x ?_ | refine e_block_y rfl ?_)) | refine l_ends ?_)
    all_goals (refine kE ?_; refine s_leaveSF rfl rfl rfl fwA (fun w hw => ?_))
    all_goals exact ⟨_, _, rfl, ⟨_, rfl, by rw [h0]; exact OVec.empty 1 3 _⟩, hw.toFresh (i := 0) rfl⟩
  | some A =>
    (first | apply SYields.mk | apply SYieldsF.mk | skip); refine s_enter Tryz.func109 rfl Tryz.ntmps109 rfl ?_
    repeat' (first | exact rfl | (apply kO; (first | exact ov_pure rfl | (apply kOBin; (first | exact aBin)) | (apply kOCall; (first | (apply kCallB; (first | exact aBlt | exact aLenR)))) | (apply kOLoad; (first | exact aLdF | exact aLdR)) | exact ov_fieldAddr rfl | (apply kOIdx; (first | exact aIdx)) | exact aRest | exact aNew | exact (ov_field1 (ft := 31) rfl rfl rfl rfl))) | (refine kN ?_; (first | (refine kCall ?_; (first | (refine kWApp ?_; (refine s_append 0 (ys := ivals i.data) (m := i.data.length) rfl rfl (OVec.empty 1 3 _) rfl rfl (by decide) (by simp [ivals]) (oneCells_ivals i.data) (fun w hw => ⟨_, _, rfl, RInts.src (hv.keep (hw.cells rfl))⟩) (by omega) (by omega) rfl (fun v' H' hv' => ?_); have f1 := hv'.form; obtain ⟨_, _, rfl⟩ := f1)) | apply s_step)) | (refine kStore ?_; (first | refine s_store1 _ rfl rfl gpA rfl (by rfl) ?_ | refine s_storeS _ rfl rfl gpA rfl rfl (by rfl) ?_ | refine s_storeS _ rfl rfl gpA rfl (ones_img oiA) (by rfl) ?_)) | refine s_boxS rfl rfl (fun b hb => ?_) | refine s_allocS rfl (fun b hb => ?_) | refine s_box1 rfl rfl rfl (fun b hb => ?_) | refine s_alloc1 rfl rfl (fun b hb => ?_) | refine s_buildSlice0 rfl (fun b hb => ?_) | refine s_buildSlice rfl rfl rfl rfl rfl (fun b hb => ?_) | apply s_step)) | (refine kG ?_; (first | refine s_gyes rfl rfl rfl ?_ | refine s_gno rfl rfl rfl rfl rfl ?_ | ((first | refine s_split_d rfl rfl (fun h => ?_) (fun h => ?_) | refine s_split_n rfl rfl (fun h => ?_) (fun h => ?_)) <;> (try (first | contradiction | (exfalso; omega)))) | refine s_split_nb rfl rfl (fun h => ?_) (fun h => ?_) | refine s_split rfl rfl (fun h => ?_) (fun h => ?_))) | (refine kS ?_; (first | refine h_exec rfl ?_ | refine h_take_nil rfl rfl rfl ?_ | refine h_take_pick rfl rfl rfl ?_ | refine h_nil ?_ | refine h_alt ?_ ?_ | apply h_take)) | (refine kBack ?_; (first | refine h_back_last rfl ?_ | refine h_backN rfl subA ?_)) | refine l_then ?_ | (refine kC ?_; (first | (refine kReg 1 ?_; refine c_regionSN (SPlan.take 0 (SPlan.take 1 (SPlan.take 2 (SPlan.take 3 (SPlan.take 5 (SPlan.take 6 (SPlan.run 4 (SPlan.run 7 (SPlan.take 8 (SPlan.run 9 SPlan.done)))))))))) (some 9) rfl rfl (by decide +kernel) ?_) | (refine kReg 1 ?_; refine c_regionSN (SPlan.take 0 (SPlan.take 1 (SPlan.take 2 (SPlan.take 3 (SPlan.take 5 (SPlan.take 6 (SPlan.run 4 (SPlan.run 7 (SPlan.take 8 (SPlan.run 9 SPlan.done)))))))))) none rfl rfl (by decide +kernel) ?_) | refine c_seq ?_ | refine c_regionN rfl ?_ | refine c_ret ?_ | (refine kCond ?_; (first | refine c_cond_t rfl ?_ | refine c_cond_f rfl ?_ | ((first | refine c_cond_d rfl (fun h => ?_) (fun h => ?_) | refine c_cond_n rfl (fun h => ?_) (fun h => ?_)) <;> (try (first | contradiction | (exfalso; omega)))) | refine c_cond_nb rfl (fun h => ?_) (fun h => ?_) | refine c_cond rfl (fun h => ?_) (fun h => ?_))) | refine c_block ?_ | refine c_skip ?_ | refine c_exit ?_ | refine c_regionQN rfl rfl (by decide +kernel) ?_)) | apply s_stepQ | (refine kQG ?_; (first | refine s_gyesQ rfl rfl rfl ?_ | refine s_gnoQ rfl rfl rfl rfl rfl ?_ | ((first | refine s_splitQ_d rfl rfl (fun h => ?_) (fun h => ?_) | refine s_splitQ_n rfl rfl (fun h => ?_) (fun h => ?_)) <;> (try (first | contradiction | (exfalso; omega)))) | refine s_splitQ_nb rfl rfl (fun h => ?_) (fun h => ?_) | refine s_splitQ rfl rfl (fun h => ?_) (fun h => ?_))) | refine lQ_then ?_ | refine lQ_ends ?_ | (refine kE ?_; (first | refine e_then_r ?_ | refine e_block_r ?_ | refine e_then_n ?_ | refine e_then_x ?_ | refine e_block_n ?_ | refine e_block_x ?_ | refine e_block_y rfl ?_)) | refine l_ends ?_)
    all_goals (refine kE ?_; refine s_leaveSF rfl rfl rfl fwA (fun w hw => ?_))
    all_goals exact ⟨_, _, rfl, ⟨_, rfl, by simpa [OInts] using hv'⟩, hw.toFresh (i := 0) rfl⟩
/-- a function value that answers so, in every later world -/
def Gives (P : Program) (g : FuncId) (cap : List Value) (φ : Int → Int → Int) (w h : Int) (w0 : World) : Prop :=
  ∀ x y : Int, (0 ≤ x ∧ x < w) → (0 ≤ y ∧ y < h) → ∀ w', RowKit.Below w0.heap.size w0 w' → SYields P g (([Value.int .i64 x, Value.int .i64 y] : List Value) ++ cap).toArray (.int .i64 (φ x y)) w'
theorem mapTo_row {φ : Int → Int → Int} {w : Int} (hw : 1 ≤ w) (y x : Nat) (hx : (x : Int) < w) : mapTo φ w (y * w.toNat + x) ++ [φ x y] = mapTo φ w (y * w.toNat + (x + 1)) := by
  have e : ((y * w.toNat + x : Nat) : Int) = (y : Int) * w + x := by push_cast; rw [Int.toNat_of_nonneg (by omega)]
  have h := row_mod (w := w) (x := x) (y := y) (by omega) (by omega)
  rw [← Nat.add_assoc, mapTo_succ, e, h.1, h.2]
theorem c_mapImage (pw ph : Int) (g : FuncId) (cap : List Value) (φ : Int → Int → Int) (W : World) [SCallee Tryz.prog g] (hw0 : 1 ≤ pw ∧ pw ≤ 16) (hh0 : 1 ≤ ph ∧ ph ≤ 16) (hg : Gives Tryz.prog g cap φ pw ph W) :
    SYieldsF Tryz.prog 167 #[.int .i64 pw, .int .i64 ph, .func (.func g) #[] cap.toArray] (fun u H => OImg u ⟨pw, ph, mapTo φ pw (pw * ph).toNat⟩ H) W := by
  have hwh := side_mul (w := pw) (h := ph) ⟨hw0.1, hw0.2, hh0.1, hh0.2⟩
  have hrow : ∀ y : Nat, (y : Int) ≤ ph → y * pw.toNat ≤ 256 := fun y hy => by
    have := Nat.mul_le_mul (show y ≤ 16 by omega) (show pw.toNat ≤ 16 by omega); omega
  (first | apply SYields.mk | apply SYieldsF.mk | skip); refine s_enter Tryz.func167 rfl Tryz.ntmps167 rfl ?_
  repeat' (first | exact rfl | (apply kO; (first | exact ov_pure rfl | (apply kOBin; (first | exact aBin)) | (apply kOCall; (first | (apply kCallV; exact (ov_callV rfl rfl (fun w hw => hg _ _ (by omega) (by omega) w hw.below))) | (apply kCallB; (first | exact aBlt | exact aLenR)))) | (apply kOLoad; (first | exact aLdF | exact aLdR)) | exact ov_fieldAddr rfl | (apply kOIdx; (first | exact aIdx)) | exact aRest | exact aNew | exact (ov_field1 (ft := 31) rfl rfl rfl rfl))) | (refine kN ?_; (first | (refine kCall ?_; (first | (refine kWApp ?_; (refine s_appendI _ _ (ys := [_]) rfl rfl (by assumption) gpA gpA rfl rfl (by rw [mapTo_length]; have := hrow j.1 (by omega); omega) (by decide) rfl (fun v' H' hv' => ?_); have f1 := hv'.form; obtain ⟨ua, uc, rfl⟩ := f1)) | apply s_step)) | (refine kStore ?_; (first | refine s_store1 _ rfl rfl gpA rfl (by rfl) ?_ | refine s_storeS _ rfl rfl gpA rfl rfl (by rfl) ?_ | refine s_storeS _ rfl rfl gpA rfl (ones_img oiA) (by rfl) ?_)) | refine s_boxS rfl rfl (fun b hb => ?_) | refine s_allocS rfl (fun b hb => ?_) | refine s_box1 rfl rfl rfl (fun b hb => ?_) | refine s_alloc1 rfl rfl (fun b hb => ?_) | (refine kWMake ?_; (refine s_make1 rfl rfl rfl ⟨by omega, by omega, by omega⟩ (by omega) rfl (fun b hb => ?_))) | refine s_buildSlice0 rfl (fun b hb => ?_) | refine s_buildSlice rfl rfl rfl rfl rfl (fun b hb => ?_) | apply s_step)) | (refine kG ?_; (first | refine s_gyes rfl rfl rfl ?_ | refine s_gno rfl rfl rfl rfl rfl ?_ | ((first | refine s_split_d rfl rfl (fun h => ?_) (fun h => ?_) | refine s_split_n rfl rfl (fun h => ?_) (fun h => ?_)) <;> (try (first | contradiction | (exfalso; omega)))) | refine s_split_nb rfl rfl (fun h => ?_) (fun h => ?_) | refine s_split rfl rfl (fun h => ?_) (fun h => ?_))) | (refine kS ?_; (first | refine h_exec rfl ?_ | refine h_take_nil rfl rfl rfl ?_ | refine h_take_pick rfl rfl rfl ?_ | refine h_nil ?_ | refine h_alt ?_ ?_ | apply h_take)) | (refine kBack ?_; (first | refine h_back_last rfl ?_ | refine h_backN rfl subA ?_)) | refine l_then ?_ | (refine kC ?_; (first | (refine kReg 8 ?_; refine c_regionSubN (SPlan.take 0 (SPlan.take 1 (SPlan.take 2 (SPlan.take 3 (SPlan.take 4 (SPlan.run 5 (SPlan.run 6 (SPlan.run 7 (SPlan.take 8 (SPlan.run 9 SPlan.done)))))))))) (some 9) [true, false, true] rfl rfl rfl (by decide +kernel) ?_) | (refine c_loopV (ι := Nat × Value × SPiece) (fun j => (j.1 : Int) ≤ ph ∧ OInts 3 j.2.1 (mapTo φ pw (j.1 * pw.toNat)) j.2.2) (fun j => [(18, .int .i64 (j.1 : Int))]) (fun j => [[(_, srow [.int .i64 pw, .int .i64 ph, j.2.1] 49)], j.2.2, _]) (fun j => ph.toNat - j.1) (0, _, _) ⟨by dsimp only; omega, by dsimp only; rw [Nat.zero_mul]; exact OInts.made _ _ _ _ (by unfold maxLen; omega)⟩ rfl (fun _ => rfl) ⟨rfl, trivial⟩ (fun w hw => hw) (fun j hj => ?_); obtain ⟨hj1, hj2⟩ := hj) | (refine c_loopV (ι := Nat × Value × SPiece) (fun i => (i.1 : Int) ≤ pw ∧ OInts 3 i.2.1 (mapTo φ pw (j.1 * pw.toNat + i.1)) i.2.2) (fun i => [(22, .int .i64 (i.1 : Int))]) (fun i => [[(_, srow [.int .i64 pw, .int .i64 ph, i.2.1] 49)], i.2.2, _]) (fun i => pw.toNat - i.1) (0, _, _) ⟨by dsimp only; omega, hj2⟩ rfl (fun _ => rfl) ⟨rfl, trivial⟩ (fun w hw => hw) (fun i hi => ?_); obtain ⟨hi1, hi2⟩ := hi) | refine c_seq ?_ | refine c_regionN rfl ?_ | refine c_ret ?_ | (refine kCond ?_; (first | refine c_cond_t rfl ?_ | refine c_cond_f rfl ?_ | ((first | refine c_cond_d rfl (fun h => ?_) (fun h => ?_) | refine c_cond_n rfl (fun h => ?_) (fun h => ?_)) <;> (try (first | contradiction | (exfalso; omega)))) | refine c_cond_nb rfl (fun h => ?_) (fun h => ?_) | refine c_cond rfl (fun h => ?_) (fun h => ?_))) | refine c_block ?_ | refine c_skip ?_ | refine c_exit ?_ | refine c_regionQN rfl rfl (by decide +kernel) ?_)) | apply s_stepQ | (refine kQG ?_; (first | refine s_gyesQ rfl rfl rfl ?_ | refine s_gnoQ rfl rfl rfl rfl rfl ?_ | ((first | refine s_splitQ_d rfl rfl (fun h => ?_) (fun h => ?_) | refine s_splitQ_n rfl rfl (fun h => ?_) (fun h => ?_)) <;> (try (first | contradiction | (exfalso; omega)))) | refine s_splitQ_nb rfl rfl (fun h => ?_) (fun h => ?_) | refine s_splitQ rfl rfl (fun h => ?_) (fun h => ?_))) | refine lQ_then ?_ | refine lQ_ends ?_ | (refine kE ?_; (first | refine e_then_r ?_ | refine e_block_r ?_ | refine e_then_n ?_ | refine e_then_x ?_ | refine e_block_n ?_ | refine e_block_x ?_ | refine e_block_y rfl ?_)) | refine l_ends ?_)
  · refine e_round (i.1 + 1, _, H') ⟨by dsimp only; omega, by dsimp only; rw [← mapTo_row (by omega) _ _ (by omega)]; exact hv'⟩ ⟨rfl, (by repeat' first | exact trivial | refine ⟨rfl, ?_⟩)⟩ (fun w hw => hw.sub (by repeat' first | exact List.nil_sublist _ | exact List.Sublist.slnil | refine List.Sublist.cons_cons _ ?_ | refine List.Sublist.cons _ ?_)) (by dsimp only; omega)
  · refine e_round (j.1 + 1, i.2.1, i.2.2) ⟨by dsimp only; omega, ?_⟩ ⟨rfl, (by repeat' first | exact trivial | refine ⟨rfl, ?_⟩)⟩ (fun w hw => hw) (by dsimp only; omega)
    dsimp only
    rw [Nat.succ_mul, show j.1 * pw.toNat + pw.toNat = j.1 * pw.toNat + i.1 by omega]
    exact hi2
  · have hj : j.1 * pw.toNat = (pw * ph).toNat := by
      have h1 : (j.1 : Int) = ph := by omega
      have h2 : ((j.1 * pw.toNat : Nat) : Int) = pw * ph := by push_cast; rw [h1, Int.toNat_of_nonneg (by omega), Int.mul_comm]
      omega
    rw [hj] at hj2
    refine s_leaveSF rfl rfl rfl fwA (fun w hw => ?_)
    exact ⟨_, _, rfl, ⟨_, rfl, hj2⟩, hw.toFresh (i := 1) rfl⟩
end Go.Proofs.YtfmjeakcfmmkfaaGreat
/-
  The plain functions, continued: places in pictures that are turned and scaled; fading in place; colors in place. No program in sight.
-/
set_option linter.unusedVariables false
namespace Sx
theorem orient_idx {i : DImg} {o : Int} (h : i.ok) (ho : 0 ≤ o ∧ o ≤ 7) {x y : Int} (hx : 0 ≤ x ∧ x < i.W) (hy : 0 ≤ y ∧ y < i.H) :
    (0 ≤ (orientPoint i.W i.H o x y).2 * (orientSize i.W i.H o).1 ∧ (orientPoint i.W i.H o x y).2 * (orientSize i.W i.H o).1 ≤ 256) ∧ (0 ≤ (orientPoint i.W i.H o x y).1 ∧ (orientPoint i.W i.H o x y).1 ≤ 15) ∧
    (orientPoint i.W i.H o x y).2 * (orientSize i.W i.H o).1 + (orientPoint i.W i.H o x y).1 < i.W * i.H := by
  have hok : orientOk i.W i.H o := ⟨h.1, h.2.1, ho⟩
  have hb := orientPt_bd hok (x := x) (y := y) (by omega) (by omega)
  have h1 := h.1
  have h2 := h.2.1
  unfold orientPoint orientSize
  rw [if_pos ⟨hok, by omega, by omega⟩, if_pos hok]
  by_cases e : o % 2 = 1
  · rw [if_pos e] at hb ⊢
    rw [if_pos e] at hb
    have := place_lt (w := i.H) (h := i.W) (x := (orientPt i.W i.H o x y).1) (y := (orientPt i.W i.H o x y).2) (by omega) (by omega)
    have hm := mul_bd (a := (orientPt i.W i.H o x y).2) (b := i.H) (A := 15) (B := 16) (by omega) (by omega)
    rw [Int.mul_comm i.H i.W] at this
    dsimp only
    omega
  · rw [if_neg e] at hb ⊢
    rw [if_neg e] at hb
    have := place_lt (w := i.W) (h := i.H) (x := (orientPt i.W i.H o x y).1) (y := (orientPt i.W i.H o x y).2) (by omega) (by omega)
    have hm := mul_bd (a := (orientPt i.W i.H o x y).2) (b := i.W) (A := 15) (B := 16) (by omega) (by omega)
    dsimp only
    omega
theorem orientSize_mul {w h o : Int} (hok : orientOk w h o) : (orientSize w h o).1 * (orientSize w h o).2 = w * h := by
  unfold orientSize
  rw [if_pos hok]
  split
  · exact Int.mul_comm ..
  · rfl
theorem orientSize_bd {w h o : Int} (hok : orientOk w h o) : (1 ≤ (orientSize w h o).1 ∧ (orientSize w h o).1 ≤ 16) ∧ (1 ≤ (orientSize w h o).2 ∧ (orientSize w h o).2 ≤ 16) := by
  have hok' := hok
  unfold orientOk at hok'
  unfold orientSize
  rw [if_pos hok]
  split <;> (dsimp only; omega)
theorem ofill_next {i : DImg} {o : Int} (h : i.ok) (ho : 0 ≤ o ∧ o ≤ 7) {k : Nat} (hk : k < i.data.length) :
    (ofill i o k).set ((orientPoint i.W i.H o ((k : Int) % i.W) ((k : Int) / i.W)).2 * (orientSize i.W i.H o).1 + (orientPoint i.W i.H o ((k : Int) % i.W) ((k : Int) / i.W)).1).toNat (i.data.getD k 0) = ofill i o (k + 1) := by
  have hok : orientOk i.W i.H o := ⟨h.1, h.2.1, ho⟩
  have hm := mod_row (w := i.W) (q := k) h.1.1
  have hd := div_lt (w := i.W) (h := i.H) (q := k) h.1.1 (by rw [← h.lenN]; omega)
  unfold orientPoint orientSize
  rw [if_pos ⟨hok, by omega, by omega⟩, if_pos hok]
  conv => rhs; unfold ofill
  dsimp only
  by_cases e : o % 2 = 1
  · simp only [if_pos e]
  · simp only [if_neg e]
theorem kplace {w h : Int} (hw : 1 ≤ w) {x y : Nat} (hx : (x : Int) < w) (hy : (y : Int) < h) : ((y * w.toNat + x : Nat) : Int) % w = x ∧ ((y * w.toNat + x : Nat) : Int) / w = y ∧ y * w.toNat + x < (w * h).toNat ∧ ((y * w.toNat + x : Nat) : Int) = y * w + x := by
  have e : ((y * w.toNat + x : Nat) : Int) = (y : Int) * w + x := by push_cast; rw [Int.toNat_of_nonneg (by omega)]
  have h1 := row_mod (w := w) (x := x) (y := y) (by omega) (by omega)
  have h2 := place_lt (w := w) (h := h) (x := x) (y := y) (by omega) (by omega)
  rw [e]
  exact ⟨h1.1, h1.2, by omega, rfl⟩
theorem ofill_next' {i : DImg} {o : Int} (h : i.ok) (ho : 0 ≤ o ∧ o ≤ 7) {x y : Nat} (hx : (x : Int) < i.W) (hy : (y : Int) < i.H) :
    (ofill i o (y * i.W.toNat + x)).set ((orientPoint i.W i.H o x y).2 * (orientSize i.W i.H o).1 + (orientPoint i.W i.H o x y).1).toNat (i.data.getD ((y : Int) * i.W + x).toNat 0) = ofill i o (y * i.W.toNat + (x + 1)) := by
  have hk := kplace (w := i.W) (h := i.H) h.1.1 hx hy
  have := ofill_next h ho (k := y * i.W.toNat + x) (by rw [h.lenN]; exact hk.2.2.1)
  rw [hk.1, hk.2.1] at this
  rw [← hk.2.2.2, Int.toNat_natCast]
  exact this
theorem rows_end {w h : Int} {y : Nat} (hw : 1 ≤ w) (hy : (y : Int) = h) : y * w.toNat = (w * h).toNat := by
  have h2 : ((y * w.toNat : Nat) : Int) = w * h := by push_cast; rw [hy, Int.toNat_of_nonneg (by omega), Int.mul_comm]
  omega
theorem rows_next {w : Int} {y x : Nat} (hx : (x : Int) = w) : y * w.toNat + x = (y + 1) * w.toNat := by
  rw [Nat.succ_mul]; omega
theorem rows_le {w h : Int} {y : Nat} (hw : 1 ≤ w ∧ w ≤ 16) (hh : 1 ≤ h ∧ h ≤ 16) (hy : (y : Int) ≤ h) : y * w.toNat ≤ 256 := by
  have := Nat.mul_le_mul (show y ≤ 16 by omega) (show w.toNat ≤ 16 by omega); omega
/-! ### chapter 7 -/
theorem scalePoint_in {f t k : Int} (hf : 1 ≤ f ∧ f ≤ 16) (ht : 1 ≤ t ∧ t ≤ 16) (hk : 0 ≤ k ∧ k < t) : scalePoint f t k = k * f / t ∧ 0 ≤ scalePoint f t k ∧ scalePoint f t k < f := by
  unfold scalePoint
  rw [if_pos ⟨hf, ht, by omega⟩]
  have h0 : 0 ≤ k * f := Int.mul_nonneg (by omega) (by omega)
  have h1 : (k + 1) * f ≤ t * f := Int.mul_le_mul_of_nonneg_right (by omega) (by omega)
  rw [Int.add_mul, Int.one_mul, Int.mul_comm t f] at h1
  exact ⟨rfl, Int.ediv_nonneg h0 (by omega), Int.ediv_lt_of_lt_mul (by omega) (by omega)⟩
theorem scale_idx {i : DImg} {w h : Int} (hi : i.ok) (hw : 1 ≤ w ∧ w ≤ 16) (hh : 1 ≤ h ∧ h ≤ 16) {x y : Int} (hx : 0 ≤ x ∧ x < w) (hy : 0 ≤ y ∧ y < h) :
    (0 ≤ scalePoint i.H h y * i.W ∧ scalePoint i.H h y * i.W ≤ 256) ∧ (0 ≤ scalePoint i.W w x ∧ scalePoint i.W w x ≤ 15) ∧ scalePoint i.H h y * i.W + scalePoint i.W w x < i.data.length ∧
    i.data.getD (scalePoint i.H h y * i.W + scalePoint i.W w x).toNat 0 = scaleAt i w h x y := by
  have h1 := scalePoint_in hi.2.1 hh hy
  have h2 := scalePoint_in hi.1 hw hx
  have hp := place_lt (w := i.W) (h := i.H) h2.2 h1.2
  have hm := mul_bd (a := scalePoint i.H h y) (b := i.W) (A := 16) (B := 16) (by have := hi.2.1; omega) (by have := hi.1; omega)
  have hl := hi.2.2.1
  have hi1 := hi.1
  refine ⟨by omega, by omega, by omega, ?_⟩
  unfold scaleAt
  rw [h1.1, h2.1]
/-! ### fading in place -/
def mapFirst (f : Int → Int) (l : List Int) (j : Nat) : List Int := (l.take j).map f ++ l.drop j
theorem mapFirst_zero (f : Int → Int) (l : List Int) : mapFirst f l 0 = l := by simp [mapFirst]
theorem mapFirst_all (f : Int → Int) (l : List Int) {j : Nat} (h : l.length ≤ j) : mapFirst f l j = l.map f := by simp [mapFirst, List.take_of_length_le h, List.drop_of_length_le h]
theorem mapFirst_length (f : Int → Int) (l : List Int) (j : Nat) : (mapFirst f l j).length = l.length := by simp [mapFirst]; omega
theorem mapFirst_get (f : Int → Int) (l : List Int) {j : Nat} (h : j < l.length) : (mapFirst f l j).getD j 0 = l.getD j 0 := by
  simp only [mapFirst, List.getD_eq_getElem?_getD]
  rw [List.getElem?_append_right (by simp; omega)]
  simp [show j - min j l.length = 0 by omega]
theorem mapFirst_set (f : Int → Int) (l : List Int) {j : Nat} (h : j < l.length) : (mapFirst f l j).set j (f (l.getD j 0)) = mapFirst f l (j + 1) := by
  unfold mapFirst
  have hl : ((l.take j).map f).length = j := by simp; omega
  rw [List.set_append_right _ _ (by omega), hl, Nat.sub_self, List.drop_eq_getElem_cons h, List.set_cons_zero, List.take_add_one]
  simp only [Option.toList_some, List.map_append, List.map_cons, List.map_nil, List.append_assoc, List.cons_append, List.nil_append, List.getD_eq_getElem?_getD, List.getElem?_eq_getElem h, Option.getD_some]
theorem map_take_succ (f : Int → Int) (l : List Int) {j : Nat} (h : j < l.length) : (l.take j).map f ++ [f (l.getD j 0)] = (l.take (j + 1)).map f := by
  rw [List.take_add_one]
  simp only [Option.toList_some, List.map_append, List.map_cons, List.map_nil, List.getD_eq_getElem?_getD, List.getElem?_eq_getElem h, Option.getD_some]
end Sx
/-
  Contracts: images that are turned, scaled, faded.
-/
set_option linter.unusedVariables false
namespace Go.Proofs.YtfmjeakcfmmkfaaGreat
open Go Sx
attribute [local irreducible] Exit.then Exit.inBlock bodyPost
theorem c_ioriented (i : DImg) (d : Value) (o : Int) (W : World) (hd : RInts W d i.data) : SYieldsF Tryz.prog 216 #[vImg i d, .int .i64 o] (fun u H => OImg u (oriented i o) H) W := by
  by_cases hok : i.ok ∧ (0 ≤ o ∧ o ≤ 7)
  · have hoo : orientOk i.W i.H o := ⟨hok.1.1, hok.1.2.1, hok.2⟩
    have hsz := orientSize_mul hoo
    have hsb := orientSize_bd hoo
    have hW := (hok.1).1; have hH := (hok.1).2.1; have hlen := (hok.1).2.2.1; have hlenN := (hok.1).lenN; have hwh := side_mul (w := i.W) (h := i.H) ⟨(hok.1).1.1, (hok.1).1.2, (hok.1).2.1.1, (hok.1).2.1.2⟩
    have hfl := ofill_length i o
    have hm := fun k => mod_row (w := i.W) (q := k) hok.1.1.1
    have hdv := fun (k : Nat) (hk : k < i.data.length) => div_lt (w := i.W) (h := i.H) (q := k) hok.1.1.1 (by rw [← hok.1.lenN]; omega)
    have hq := fun (k : Nat) (hk : k < i.data.length) => orient_idx hok.1 hok.2 (x := (k : Int) % i.W) (y := (k : Int) / i.W) ⟨(hm k).1, (hm k).2.1⟩ ⟨(hm k).2.2.1, hdv k hk⟩
    (first | apply SYields.mk | apply SYieldsF.mk | skip); refine s_enter Tryz.func216 rfl Tryz.ntmps216 rfl ?_
    repeat' (first | exact rfl | (apply kO; (first | exact ov_pure rfl | (apply kOBin; (first | exact aBin | exact (ov_mul rfl rfl (by omega)) | exact (ov_mul rfl rfl (by have := hq j.1 (by omega); omega)) | exact (ov_add rfl rfl (by have := hq j.1 (by omega); omega)))) | (apply kOCall; (first | (apply kCallF; (first | exact (ov_call rfl (fun w hw => c_iimageOk i _ w (riA hw))) | exact (ov_call rfl (fun w hw => c_isOrient _ w)) | exact (ov_call rfl (fun w hw => c_iorientSize _ _ _ w)) | exact (ov_call rfl (fun w hw => c_iorientPoint _ _ _ _ _ w)))) | (apply kCallB; (first | exact aBlt | exact aLenR)))) | (apply kOLoad; (first | exact aLdF | exact aLdR)) | exact ov_fieldAddr rfl | (apply kOIdx; (first | exact (ov_idxR (fun w hw => (rrA hw)) rfl rfl (by rw [hfl]; have := hq j.1 (by omega); omega)) | exact aIdx)) | exact aRest | exact aNew | exact (ov_field1 (ft := 31) rfl rfl rfl rfl))) | (refine kN ?_; (first | (refine kStore ?_; (first | (refine s_setI _ rfl rfl (by assumption) gpA (by rw [hfl]; have := hq j.1 (by omega); omega) (fun H' hu => ?_)) | refine s_store1 _ rfl rfl gpA rfl (by rfl) ?_ | refine s_storeS _ rfl rfl gpA rfl rfl (by rfl) ?_ | refine s_storeS _ rfl rfl gpA rfl (ones_img oiA) (by rfl) ?_)) | refine s_boxS rfl rfl (fun b hb => ?_) | refine s_allocS rfl (fun b hb => ?_) | refine s_box1 rfl rfl rfl (fun b hb => ?_) | refine s_alloc1 rfl rfl (fun b hb => ?_) | (refine kWMake ?_; (refine s_make1 rfl rfl rfl ⟨by omega, by omega, by omega⟩ (by omega) rfl (fun b hb => ?_); rw [hsz])) | refine s_buildSlice0 rfl (fun b hb => ?_) | refine s_buildSlice rfl rfl rfl rfl rfl (fun b hb => ?_) | apply s_step)) | (refine kG ?_; (first | refine s_gyes rfl rfl rfl ?_ | refine s_gno rfl rfl rfl rfl rfl ?_ | ((first | refine s_split_d rfl rfl (fun h => ?_) (fun h => ?_) | refine s_split_n rfl rfl (fun h => ?_) (fun h => ?_)) <;> (try (first | contradiction | (exfalso; omega) | (exfalso; exact absurd hok.1 (by assumption))))) | refine s_split_nb rfl rfl (fun h => ?_) (fun h => ?_) | refine s_split rfl rfl (fun h => ?_) (fun h => ?_))) | refine l_then ?_ | (refine kC ?_; (first | (refine c_loopV (ι := Nat × SPiece) (fun j => j.1 ≤ i.data.length ∧ OInts 3 _ (ofill i o j.1) j.2) (fun j => [(40, .int .i64 (j.1 : Int))]) (fun j => [_, j.2, _, _]) (fun j => i.data.length - j.1) (0, _) ⟨by dsimp only; omega, OInts.full _ _ 0 (by unfold maxLen; omega)⟩ rfl (fun _ => rfl) ⟨rfl, trivial⟩ (fun w hw => hw) (fun j hj => ?_); obtain ⟨hj1, hj2⟩ := hj) | refine c_seq ?_ | refine c_regionN rfl ?_ | refine c_ret ?_ | (refine kCond ?_; (first | refine c_cond_t rfl ?_ | refine c_cond_f rfl ?_ | ((first | refine c_cond_d rfl (fun h => ?_) (fun h => ?_) | refine c_cond_n rfl (fun h => ?_) (fun h => ?_)) <;> (try (first | contradiction | (exfalso; omega) | (exfalso; exact absurd hok.1 (by assumption))))) | refine c_cond_nb rfl (fun h => ?_) (fun h => ?_) | refine c_cond rfl (fun h => ?_) (fun h => ?_))) | refine c_block ?_ | refine c_skip ?_ | refine c_exit ?_ | refine c_regionQN rfl rfl (by decide +kernel) ?_)) | apply s_stepQ | (refine kQG ?_; (first | refine s_gyesQ rfl rfl rfl ?_ | refine s_gnoQ rfl rfl rfl rfl rfl ?_ | ((first | refine s_splitQ_d rfl rfl (fun h => ?_) (fun h => ?_) | refine s_splitQ_n rfl rfl (fun h => ?_) (fun h => ?_)) <;> (try (first | contradiction | (exfalso; omega) | (exfalso; exact absurd hok.1 (by assumption))))) | refine s_splitQ_nb rfl rfl (fun h => ?_) (fun h => ?_) | refine s_splitQ rfl rfl (fun h => ?_) (fun h => ?_))) | refine lQ_then ?_ | refine lQ_ends ?_ | (refine kE ?_; (first | refine e_then_r ?_ | refine e_block_r ?_ | refine e_then_n ?_ | refine e_then_x ?_ | refine e_block_n ?_ | refine e_block_x ?_ | refine e_block_y rfl ?_)) | refine l_ends ?_)
    · rw [Int.toNat_natCast, ofill_next hok.1 hok.2 (by omega)] at hu
      exact e_round (j.1 + 1, H') ⟨by dsimp only; omega, hu⟩ ⟨rfl, (by repeat' first | exact trivial | refine ⟨rfl, ?_⟩)⟩ (fun w hw => hw) (by dsimp only; omega)
    · obtain hj : j.1 = i.data.length := by omega
      rw [hj] at hj2
      refine s_leaveSF rfl rfl rfl fwA (fun w hw => ?_)
      refine ⟨_, _, rfl, ?_, hw.toFresh (i := 1) rfl⟩
      unfold oriented
      rw [if_pos hok]
      exact ⟨_, rfl, hj2⟩
  · (first | apply SYields.mk | apply SYieldsF.mk | skip); refine s_enter Tryz.func216 rfl Tryz.ntmps216 rfl ?_
    repeat' (first | exact rfl | (apply kO; (first | exact ov_pure rfl | (apply kOBin; (first | exact aBin)) | (apply kOCall; (first | (apply kCallF; (first | exact (ov_call rfl (fun w hw => c_iimageOk i _ w (riA hw))) | exact (ov_call rfl (fun w hw => c_isOrient _ w)) | exact (ov_call rfl (fun w hw => c_iorientSize _ _ _ w)))) | (apply kCallB; (first | exact aBlt | exact aLenR)))) | (apply kOLoad; (first | exact aLdF | exact aLdR)) | exact ov_fieldAddr rfl | (apply kOIdx; (first | exact aIdx)) | exact aRest | exact aNew | exact (ov_field1 (ft := 31) rfl rfl rfl rfl))) | (refine kN ?_; (first | (refine kStore ?_; (first | refine s_store1 _ rfl rfl gpA rfl (by rfl) ?_ | refine s_storeS _ rfl rfl gpA rfl rfl (by rfl) ?_ | refine s_storeS _ rfl rfl gpA rfl (ones_img oiA) (by rfl) ?_)) | refine s_boxS rfl rfl (fun b hb => ?_) | refine s_allocS rfl (fun b hb => ?_) | refine s_box1 rfl rfl rfl (fun b hb => ?_) | refine s_alloc1 rfl rfl (fun b hb => ?_) | refine s_buildSlice0 rfl (fun b hb => ?_) | refine s_buildSlice rfl rfl rfl rfl rfl (fun b hb => ?_) | apply s_step)) | (refine kG ?_; (first | refine s_gyes rfl rfl rfl ?_ | refine s_gno rfl rfl rfl rfl rfl ?_ | ((first | refine s_split_d rfl rfl (fun h => ?_) (fun h => ?_) | refine s_split_n rfl rfl (fun h => ?_) (fun h => ?_)) <;> (try (first | contradiction | (exfalso; omega) | (exfalso; exact hok ⟨by assumption, by assumption⟩)))) | refine s_split_nb rfl rfl (fun h => ?_) (fun h => ?_) | refine s_split rfl rfl (fun h => ?_) (fun h => ?_))) | refine l_then ?_ | (refine kC ?_; (first | refine c_seq ?_ | refine c_regionN rfl ?_ | refine c_ret ?_ | (refine kCond ?_; (first | refine c_cond_t rfl ?_ | refine c_cond_f rfl ?_ | ((first | refine c_cond_d rfl (fun h => ?_) (fun h => ?_) | refine c_cond_n rfl (fun h => ?_) (fun h => ?_)) <;> (try (first | contradiction | (exfalso; omega) | (exfalso; exact hok ⟨by assumption, by assumption⟩)))) | refine c_cond_nb rfl (fun h => ?_) (fun h => ?_) | refine c_cond rfl (fun h => ?_) (fun h => ?_))) | refine c_block ?_ | refine c_skip ?_ | refine c_exit ?_ | refine c_regionQN rfl rfl (by decide +kernel) ?_)) | apply s_stepQ | (refine kQG ?_; (first | refine s_gyesQ rfl rfl rfl ?_ | refine s_gnoQ rfl rfl rfl rfl rfl ?_ | ((first | refine s_splitQ_d rfl rfl (fun h => ?_) (fun h => ?_) | refine s_splitQ_n rfl rfl (fun h => ?_) (fun h => ?_)) <;> (try (first | contradiction | (exfalso; omega) | (exfalso; exact hok ⟨by assumption, by assumption⟩)))) | refine s_splitQ_nb rfl rfl (fun h => ?_) (fun h => ?_) | refine s_splitQ rfl rfl (fun h => ?_) (fun h => ?_))) | refine lQ_then ?_ | refine lQ_ends ?_ | (refine kE ?_; (first | refine e_then_r ?_ | refine e_block_r ?_ | refine e_then_n ?_ | refine e_then_x ?_ | refine e_block_n ?_ | refine e_block_x ?_ | refine e_block_y rfl ?_)) | refine l_ends ?_)
    all_goals (refine kE ?_; refine s_leaveSF rfl rfl rfl fwA (fun w hw => ?_))
    all_goals (unfold oriented; rw [if_neg hok]; exact ⟨_, [], rfl, ⟨_, rfl, OInts.nil _⟩, hw.toFresh0⟩)
theorem c_soriented (i : DImg) (d : Value) (o : Int) (W : World) (hd : RInts W d i.data) : SYieldsF Tryz.prog 178 #[vImg i d, .int .i64 o] (fun u H => OImg u (oriented i o) H) W := by
  by_cases hok : i.ok ∧ (0 ≤ o ∧ o ≤ 7)
  · have hoo : orientOk i.W i.H o := ⟨hok.1.1, hok.1.2.1, hok.2⟩
    have hsz := orientSize_mul hoo
    have hsb := orientSize_bd hoo
    have hW := (hok.1).1; have hH := (hok.1).2.1; have hlen := (hok.1).2.2.1; have hlenN := (hok.1).lenN; have hwh := side_mul (w := i.W) (h := i.H) ⟨(hok.1).1.1, (hok.1).1.2, (hok.1).2.1.1, (hok.1).2.1.2⟩
    have hfl := ofill_length i o
    have hq := fun (y x : Nat) (hy : (y : Int) < i.H) (hx : (x : Int) < i.W) => orient_idx hok.1 hok.2 (x := (x : Int)) (y := (y : Int)) ⟨by omega, hx⟩ ⟨by omega, hy⟩
    have hp := fun (y x : Nat) (hy : (y : Int) < i.H) (hx : (x : Int) < i.W) => place_lt (w := i.W) (h := i.H) (x := (x : Int)) (y := (y : Int)) ⟨by omega, hx⟩ ⟨by omega, hy⟩
    have hmb := fun (y : Nat) (hy : (y : Int) < i.H) => mul_bd (a := (y : Int)) (b := i.W) (A := 16) (B := 16) (by omega) (by omega)
    (first | apply SYields.mk | apply SYieldsF.mk | skip); refine s_enter Tryz.func178 rfl Tryz.ntmps178 rfl ?_
    repeat' (first | exact rfl | (apply kO; (first | exact ov_pure rfl | (apply kOBin; (first | exact aBin | exact (ov_mul rfl rfl (by omega)) | exact (ov_mul rfl rfl (by have := hq j.1 x.1 (by omega) (by omega); omega)) | exact (ov_add rfl rfl (by have := hq j.1 x.1 (by omega) (by omega); omega)) | exact (ov_mul rfl rfl (by have := hmb j.1 (by omega); omega)) | exact (ov_add rfl rfl (by have := hp j.1 x.1 (by omega) (by omega); omega)))) | (apply kOCall; (first | (apply kCallF; (first | exact (ov_call rfl (fun w hw => c_simageOk i _ w (riA hw))) | exact (ov_call rfl (fun w hw => c_l01In _ _ _ w)) | exact (ov_call rfl (fun w hw => c_sorientSize _ _ _ w)) | exact (ov_call rfl (fun w hw => c_sorientPoint _ _ _ _ _ w)))) | (apply kCallB; (first | exact aBlt | exact aLenR)))) | (apply kOLoad; (first | exact (ov_ldR0 (fun w hw => (rrA hw)) rfl rfl (by have := hp j.1 x.1 (by omega) (by omega); omega) rfl) | exact aLdF | exact aLdR)) | exact ov_fieldAddr rfl | (apply kOIdx; (first | exact (ov_idxR (fun w hw => (rrA hw)) rfl rfl (by rw [hfl]; have := hq j.1 x.1 (by omega) (by omega); omega)) | exact (ov_idxR (fun w hw => (rrA hw)) rfl rfl (by have := hp j.1 x.1 (by omega) (by omega); omega)) | exact aIdx)) | exact aRest | exact aNew | exact (ov_field1 (ft := 31) rfl rfl rfl rfl))) | (refine kN ?_; (first | (refine kStore ?_; (first | (refine s_setI _ rfl rfl (by assumption) gpA (by rw [hfl]; have := hq j.1 x.1 (by omega) (by omega); omega) (fun H' hu => ?_)) | refine s_store1 _ rfl rfl gpA rfl (by rfl) ?_ | refine s_storeS _ rfl rfl gpA rfl rfl (by rfl) ?_ | refine s_storeS _ rfl rfl gpA rfl (ones_img oiA) (by rfl) ?_)) | refine s_boxS rfl rfl (fun b hb => ?_) | refine s_allocS rfl (fun b hb => ?_) | refine s_box1 rfl rfl rfl (fun b hb => ?_) | refine s_alloc1 rfl rfl (fun b hb => ?_) | (refine kWMake ?_; (refine s_make1 rfl rfl rfl ⟨by omega, by omega, by omega⟩ (by omega) rfl (fun b hb => ?_); rw [hsz])) | refine s_buildSlice0 rfl (fun b hb => ?_) | refine s_buildSlice rfl rfl rfl rfl rfl (fun b hb => ?_) | apply s_step)) | (refine kG ?_; (first | refine s_gyes rfl rfl rfl ?_ | refine s_gno rfl rfl rfl rfl rfl ?_ | ((first | refine s_split_d rfl rfl (fun h => ?_) (fun h => ?_) | refine s_split_n rfl rfl (fun h => ?_) (fun h => ?_)) <;> (try (first | contradiction | (exfalso; omega) | (exfalso; exact absurd hok.1 (by assumption))))) | refine s_split_nb rfl rfl (fun h => ?_) (fun h => ?_) | refine s_split rfl rfl (fun h => ?_) (fun h => ?_))) | (refine kS ?_; (first | refine h_exec rfl ?_ | refine h_take_nil rfl rfl rfl ?_ | refine h_take_pick rfl rfl rfl ?_ | refine h_nil ?_ | refine h_alt ?_ ?_ | apply h_take)) | (refine kBack ?_; (first | refine h_back_last rfl ?_ | refine h_backN rfl subA ?_)) | refine l_then ?_ | (refine kC ?_; (first | (refine kReg 12 ?_; refine c_regionSN (SPlan.take 0 (SPlan.take 1 (SPlan.take 2 (SPlan.take 3 (SPlan.take 4 (SPlan.take 5 (SPlan.take 6 (SPlan.take 7 (SPlan.take 8 (SPlan.take 9 (SPlan.take 10 (SPlan.take 11 (SPlan.take 12 (SPlan.take 13 (SPlan.take 14 (SPlan.take 15 (SPlan.take 16 (SPlan.take 17 (SPlan.run 18 SPlan.done))))))))))))))))))) (some 18) rfl rfl (by decide +kernel) ?_) | (refine kReg 12 ?_; refine c_regionSN (SPlan.take 0 (SPlan.take 1 (SPlan.take 2 (SPlan.take 3 (SPlan.take 4 (SPlan.take 5 (SPlan.take 6 (SPlan.take 7 (SPlan.take 8 (SPlan.take 9 (SPlan.take 10 (SPlan.take 11 (SPlan.take 12 (SPlan.take 13 (SPlan.take 14 (SPlan.take 15 (SPlan.take 16 (SPlan.take 17 (SPlan.run 18 SPlan.done))))))))))))))))))) none rfl rfl (by decide +kernel) ?_) | (refine c_loopV (ι := Nat × SPiece) (fun j => (j.1 : Int) ≤ i.H ∧ OInts 3 _ (ofill i o (j.1 * i.W.toNat)) j.2) (fun j => [(8, .int .i64 (j.1 : Int))]) (fun j => [_, j.2, _, _]) (fun j => i.H.toNat - j.1) (0, _) ⟨by dsimp only; omega, by dsimp only; rw [Nat.zero_mul]; exact OInts.full _ _ 0 (by unfold maxLen; omega)⟩ rfl (fun _ => rfl) ⟨rfl, trivial⟩ (fun w hw => hw) (fun j hj => ?_); obtain ⟨hj1, hj2⟩ := hj) | (refine c_loopV (ι := Nat × SPiece) (fun x => (x.1 : Int) ≤ i.W ∧ OInts 3 _ (ofill i o (j.1 * i.W.toNat + x.1)) x.2) (fun x => [(9, .int .i64 (x.1 : Int))]) (fun x => [_, x.2, _, _]) (fun x => i.W.toNat - x.1) (0, _) ⟨by dsimp only; omega, hj2⟩ rfl (fun _ => rfl) ⟨rfl, trivial⟩ (fun w hw => hw) (fun x hx => ?_); obtain ⟨hx1, hx2⟩ := hx) | refine c_seq ?_ | refine c_regionN rfl ?_ | refine c_ret ?_ | (refine kCond ?_; (first | refine c_cond_t rfl ?_ | refine c_cond_f rfl ?_ | ((first | refine c_cond_d rfl (fun h => ?_) (fun h => ?_) | refine c_cond_n rfl (fun h => ?_) (fun h => ?_)) <;> (try (first | contradiction | (exfalso; omega) | (exfalso; exact absurd hok.1 (by assumption))))) | refine c_cond_nb rfl (fun h => ?_) (fun h => ?_) | refine c_cond rfl (fun h => ?_) (fun h => ?_))) | refine c_block ?_ | refine c_skip ?_ | refine c_exit ?_ | refine c_regionQN rfl rfl (by decide +kernel) ?_)) | apply s_stepQ | (refine kQG ?_; (first | refine s_gyesQ rfl rfl rfl ?_ | refine s_gnoQ rfl rfl rfl rfl rfl ?_ | ((first | refine s_splitQ_d rfl rfl (fun h => ?_) (fun h => ?_) | refine s_splitQ_n rfl rfl (fun h => ?_) (fun h => ?_)) <;> (try (first | contradiction | (exfalso; omega) | (exfalso; exact absurd hok.1 (by assumption))))) | refine s_splitQ_nb rfl rfl (fun h => ?_) (fun h => ?_) | refine s_splitQ rfl rfl (fun h => ?_) (fun h => ?_))) | refine lQ_then ?_ | refine lQ_ends ?_ | (refine kE ?_; (first | refine e_then_r ?_ | refine e_block_r ?_ | refine e_then_n ?_ | refine e_then_x ?_ | refine e_block_n ?_ | refine e_block_x ?_ | refine e_block_y rfl ?_)) | refine l_ends ?_)
    · rw [ofill_next' hok.1 hok.2 (by omega) (by omega)] at hu
      exact e_round (x.1 + 1, H') ⟨by dsimp only; omega, hu⟩ ⟨rfl, (by repeat' first | exact trivial | refine ⟨rfl, ?_⟩)⟩ (fun w hw => hw) (by dsimp only; omega)
    · rw [rows_next (w := i.W) (by omega)] at hx2
      exact e_round (j.1 + 1, x.2) ⟨by dsimp only; omega, hx2⟩ ⟨rfl, (by repeat' first | exact trivial | refine ⟨rfl, ?_⟩)⟩ (fun w hw => hw) (by dsimp only; omega)
    · rw [(rows_end (w := i.W) (h := i.H) (by omega) (by omega)).trans hlenN.symm] at hj2
      refine s_leaveSF rfl rfl rfl fwA (fun w hw => ?_)
      refine ⟨_, _, rfl, ?_, hw.toFresh (i := 1) rfl⟩
      unfold oriented
      rw [if_pos hok]
      exact ⟨_, rfl, hj2⟩
  · (first | apply SYields.mk | apply SYieldsF.mk | skip); refine s_enter Tryz.func178 rfl Tryz.ntmps178 rfl ?_
    repeat' (first | exact rfl | (apply kO; (first | exact ov_pure rfl | (apply kOBin; (first | exact aBin)) | (apply kOCall; (first | (apply kCallF; (first | exact (ov_call rfl (fun w hw => c_simageOk i _ w (riA hw))) | exact (ov_call rfl (fun w hw => c_l01In _ _ _ w)) | exact (ov_call rfl (fun w hw => c_sorientSize _ _ _ w)))) | (apply kCallB; (first | exact aBlt | exact aLenR)))) | (apply kOLoad; (first | exact aLdF | exact aLdR)) | exact ov_fieldAddr rfl | (apply kOIdx; (first | exact aIdx)) | exact aRest | exact aNew | exact (ov_field1 (ft := 31) rfl rfl rfl rfl))) | (refine kN ?_; (first | (refine kStore ?_; (first | refine s_store1 _ rfl rfl gpA rfl (by rfl) ?_ | refine s_storeS _ rfl rfl gpA rfl rfl (by rfl) ?_ | refine s_storeS _ rfl rfl gpA rfl (ones_img oiA) (by rfl) ?_)) | refine s_boxS rfl rfl (fun b hb => ?_) | refine s_allocS rfl (fun b hb => ?_) | refine s_box1 rfl rfl rfl (fun b hb => ?_) | refine s_alloc1 rfl rfl (fun b hb => ?_) | refine s_buildSlice0 rfl (fun b hb => ?_) | refine s_buildSlice rfl rfl rfl rfl rfl (fun b hb => ?_) | apply s_step)) | (refine kG ?_; (first | refine s_gyes rfl rfl rfl ?_ | refine s_gno rfl rfl rfl rfl rfl ?_ | ((first | refine s_split_d rfl rfl (fun h => ?_) (fun h => ?_) | refine s_split_n rfl rfl (fun h => ?_) (fun h => ?_)) <;> (try (first | contradiction | (exfalso; omega) | (exfalso; exact hok ⟨by assumption, by assumption⟩)))) | refine s_split_nb rfl rfl (fun h => ?_) (fun h => ?_) | refine s_split rfl rfl (fun h => ?_) (fun h => ?_))) | refine l_then ?_ | (refine kC ?_; (first | refine c_seq ?_ | refine c_regionN rfl ?_ | refine c_ret ?_ | (refine kCond ?_; (first | refine c_cond_t rfl ?_ | refine c_cond_f rfl ?_ | ((first | refine c_cond_d rfl (fun h => ?_) (fun h => ?_) | refine c_cond_n rfl (fun h => ?_) (fun h => ?_)) <;> (try (first | contradiction | (exfalso; omega) | (exfalso; exact hok ⟨by assumption, by assumption⟩)))) | refine c_cond_nb rfl (fun h => ?_) (fun h => ?_) | refine c_cond rfl (fun h => ?_) (fun h => ?_))) | refine c_block ?_ | refine c_skip ?_ | refine c_exit ?_ | refine c_regionQN rfl rfl (by decide +kernel) ?_)) | apply s_stepQ | (refine kQG ?_; (first | refine s_gyesQ rfl rfl rfl ?_ | refine s_gnoQ rfl rfl rfl rfl rfl ?_ | ((first | refine s_splitQ_d rfl rfl (fun h => ?_) (fun h => ?_) | refine s_splitQ_n rfl rfl (fun h => ?_) (fun h => ?_)) <;> (try (first | contradiction | (exfalso; omega) | (exfalso; exact hok ⟨by assumption, by assumption⟩)))) | refine s_splitQ_nb rfl rfl (fun h => ?_) (fun h => ?_) | refine s_splitQ rfl rfl (fun h => ?_) (fun h => ?_))) | refine lQ_then ?_ | refine lQ_ends ?_ | (refine kE ?_; (first | refine e_then_r ?_ | refine e_block_r ?_ | refine e_then_n ?_ | refine e_then_x ?_ | refine e_block_n ?_ | refine e_block_x ?_ | refine e_block_y rfl ?_)) | refine l_ends ?_)
    all_goals (refine kE ?_; refine s_leaveSF rfl rfl rfl fwA (fun w hw => ?_))
    all_goals (unfold oriented; rw [if_neg hok]; exact ⟨_, [], rfl, ⟨_, rfl, OInts.nil _⟩, hw.toFresh0⟩)
theorem c_scaleClosure (i : DImg) (d : Value) (pw ph x y : Int) (p q r : Nat) (W : World) (hi : i.ok) (hpw : 1 ≤ pw ∧ pw ≤ 16) (hph : 1 ≤ ph ∧ ph ≤ 16) (hx : 0 ≤ x ∧ x < pw) (hy : 0 ≤ y ∧ y < ph) (hd : RInts W d i.data)
    (c1 : ∀ j u, (cImg i d)[j]? = some u → W.cell? ⟨p, j, none⟩ = some u) (c2 : ∀ j u, [Value.int .i64 ph][j]? = some u → W.cell? ⟨q, j, none⟩ = some u) (c3 : ∀ j u, [Value.int .i64 pw][j]? = some u → W.cell? ⟨r, j, none⟩ = some u) :
    SYields Tryz.prog 233 #[.int .i64 x, .int .i64 y, .pointer (some ⟨p, 0, none⟩), .pointer (some ⟨q, 0, none⟩), .pointer (some ⟨r, 0, none⟩)] (.int .i64 (scaleAt i pw ph x y)) W := by
  have hs := scale_idx hi hpw hph hx hy
  rw [← hs.2.2.2]
  (first | apply SYields.mk | apply SYieldsF.mk | skip); refine s_enter Tryz.func233 rfl Tryz.ntmps233 rfl ?_
  repeat' (first | exact rfl | (apply kO; (first | exact ov_pure rfl | (apply kOBin; (first | exact aBin)) | (apply kOCall; (first | (apply kCallF; (first | exact (ov_call rfl (fun w hw => c_iscalePoint _ _ _ w)))) | (apply kCallB; (first | exact aBlt | exact aLenR)))) | (apply kOLoad; (first | exact (ov_load_at rfl rfl (fun w hw => hw.cells rfl _ _ (c1 0 _ rfl))) | exact (ov_load_at rfl rfl (fun w hw => hw.cells rfl _ _ (c1 1 _ rfl))) | exact (ov_load_at rfl rfl (fun w hw => hw.cells rfl _ _ (c1 2 _ rfl))) | exact (ov_load_at rfl rfl (fun w hw => hw.cells rfl _ _ (c2 0 _ rfl))) | exact (ov_load_at rfl rfl (fun w hw => hw.cells rfl _ _ (c3 0 _ rfl))) | exact aLdF | exact aLdR)) | exact ov_fieldAddr rfl | (apply kOIdx; (first | exact aIdx)) | exact aRest | exact aNew | exact (ov_field1 (ft := 31) rfl rfl rfl rfl))) | (refine kN ?_; (first | (refine kStore ?_; (first | refine s_store1 _ rfl rfl gpA rfl (by rfl) ?_ | refine s_storeS _ rfl rfl gpA rfl rfl (by rfl) ?_ | refine s_storeS _ rfl rfl gpA rfl (ones_img oiA) (by rfl) ?_)) | refine s_boxS rfl rfl (fun b hb => ?_) | refine s_allocS rfl (fun b hb => ?_) | refine s_box1 rfl rfl rfl (fun b hb => ?_) | refine s_alloc1 rfl rfl (fun b hb => ?_) | refine s_buildSlice0 rfl (fun b hb => ?_) | refine s_buildSlice rfl rfl rfl rfl rfl (fun b hb => ?_) | apply s_step)) | (refine kG ?_; (first | refine s_gyes rfl rfl rfl ?_ | refine s_gno rfl rfl rfl rfl rfl ?_ | ((first | refine s_split_d rfl rfl (fun h => ?_) (fun h => ?_) | refine s_split_n rfl rfl (fun h => ?_) (fun h => ?_)) <;> (try (first | contradiction | (exfalso; omega)))) | refine s_split_nb rfl rfl (fun h => ?_) (fun h => ?_) | refine s_split rfl rfl (fun h => ?_) (fun h => ?_))) | refine l_then ?_ | (refine kC ?_; (first | refine c_seq ?_ | refine c_regionN rfl ?_ | refine c_ret ?_ | (refine kCond ?_; (first | refine c_cond_t rfl ?_ | refine c_cond_f rfl ?_ | ((first | refine c_cond_d rfl (fun h => ?_) (fun h => ?_) | refine c_cond_n rfl (fun h => ?_) (fun h => ?_)) <;> (try (first | contradiction | (exfalso; omega)))) | refine c_cond_nb rfl (fun h => ?_) (fun h => ?_) | refine c_cond rfl (fun h => ?_) (fun h => ?_))) | refine c_block ?_ | refine c_skip ?_ | refine c_exit ?_ | refine c_regionQN rfl rfl (by decide +kernel) ?_)) | apply s_stepQ | (refine kQG ?_; (first | refine s_gyesQ rfl rfl rfl ?_ | refine s_gnoQ rfl rfl rfl rfl rfl ?_ | ((first | refine s_splitQ_d rfl rfl (fun h => ?_) (fun h => ?_) | refine s_splitQ_n rfl rfl (fun h => ?_) (fun h => ?_)) <;> (try (first | contradiction | (exfalso; omega)))) | refine s_splitQ_nb rfl rfl (fun h => ?_) (fun h => ?_) | refine s_splitQ rfl rfl (fun h => ?_) (fun h => ?_))) | refine lQ_then ?_ | refine lQ_ends ?_ | (refine kE ?_; (first | refine e_then_r ?_ | refine e_block_r ?_ | refine e_then_n ?_ | refine e_then_x ?_ | refine e_block_n ?_ | refine e_block_x ?_ | refine e_block_y rfl ?_)) | refine l_ends ?_)
  all_goals refine s_leave1 rfl rfl (fun w hw => ⟨?_, hw.below⟩)
  all_goals rfl
theorem c_iscaled (i : DImg) (d : Value) (pw ph : Int) (W : World) (hd : RInts W d i.data) : SYieldsF Tryz.prog 217 #[vImg i d, .int .i64 pw, .int .i64 ph] (fun u H => OImg u (scaled i pw ph) H) W := by
  by_cases hok : i.ok ∧ (1 ≤ pw ∧ pw ≤ 16) ∧ (1 ≤ ph ∧ ph ≤ 16)
  · (first | apply SYields.mk | apply SYieldsF.mk | skip); refine s_enter Tryz.func217 rfl Tryz.ntmps217 rfl ?_
    repeat' (first | exact rfl | (apply kO; (first | exact ov_pure rfl | (apply kOBin; (first | exact aBin)) | (apply kOCall; (first | (apply kCallF; (first | exact (ov_call rfl (fun w hw => c_iimageOk i _ w (riA hw))) | exact (ov_call rfl (fun w hw => c_isSide _ w)))) | (apply kCallB; (first | exact aBlt | exact aLenR)))) | (apply kOLoad; (first | exact aLdF | exact aLdR)) | exact ov_fieldAddr rfl | (apply kOIdx; (first | exact aIdx)) | exact aRest | exact aNew | exact (ov_field1 (ft := 31) rfl rfl rfl rfl))) | (refine kN ?_; (first | (refine kCall ?_; (first | (refine kWFunc ?_; (refine s_callF (fun u H => OImg u ⟨pw, ph, mapTo (scaleAt i pw ph) pw (pw * ph).toNat⟩ H) rfl (fun W1 hw1 => c_mapImage pw ph _ _ (scaleAt i pw ph) W1 hok.2.1 hok.2.2 (fun x y hx hy W2 hb2 => c_scaleClosure i d pw ph x y _ _ _ W2 hok.1 hok.2.1 hok.2.2 hx hy ((hd.keep (hw1.cells rfl)).keep (below_cells hb2)) (fun j u hu => below_cells hb2 _ _ (hw1.captured gpA j u hu)) (fun j u hu => below_cells hb2 _ _ (hw1.captured gpA j u hu)) (fun j u hu => below_cells hb2 _ _ (hw1.captured gpA j u hu)))) rfl (fun u H hu => ?_); obtain ⟨d', rfl, hu⟩ := hu; have f1 := hu.form; obtain ⟨_, _, rfl⟩ := f1)) | apply s_step)) | (refine kStore ?_; (first | refine s_store1 _ rfl rfl gpA rfl (by rfl) ?_ | refine s_storeS _ rfl rfl gpA rfl rfl (by rfl) ?_ | refine s_storeS _ rfl rfl gpA rfl (ones_img oiA) (by rfl) ?_)) | refine s_boxS rfl rfl (fun b hb => ?_) | refine s_allocS rfl (fun b hb => ?_) | refine s_box1 rfl rfl rfl (fun b hb => ?_) | refine s_alloc1 rfl rfl (fun b hb => ?_) | refine s_buildSlice0 rfl (fun b hb => ?_) | refine s_buildSlice rfl rfl rfl rfl rfl (fun b hb => ?_) | apply s_step)) | (refine kG ?_; (first | refine s_gyes rfl rfl rfl ?_ | refine s_gno rfl rfl rfl rfl rfl ?_ | ((first | refine s_split_d rfl rfl (fun h => ?_) (fun h => ?_) | refine s_split_n rfl rfl (fun h => ?_) (fun h => ?_)) <;> (try (first | contradiction | (exfalso; omega) | (exfalso; exact absurd hok.1 (by assumption))))) | refine s_split_nb rfl rfl (fun h => ?_) (fun h => ?_) | refine s_split rfl rfl (fun h => ?_) (fun h => ?_))) | refine l_then ?_ | (refine kC ?_; (first | refine c_seq ?_ | refine c_regionN rfl ?_ | refine c_ret ?_ | (refine kCond ?_; (first | refine c_cond_t rfl ?_ | refine c_cond_f rfl ?_ | ((first | refine c_cond_d rfl (fun h => ?_) (fun h => ?_) | refine c_cond_n rfl (fun h => ?_) (fun h => ?_)) <;> (try (first | contradiction | (exfalso; omega) | (exfalso; exact absurd hok.1 (by assumption))))) | refine c_cond_nb rfl (fun h => ?_) (fun h => ?_) | refine c_cond rfl (fun h => ?_) (fun h => ?_))) | refine c_block ?_ | refine c_skip ?_ | refine c_exit ?_ | refine c_regionQN rfl rfl (by decide +kernel) ?_)) | apply s_stepQ | (refine kQG ?_; (first | refine s_gyesQ rfl rfl rfl ?_ | refine s_gnoQ rfl rfl rfl rfl rfl ?_ | ((first | refine s_splitQ_d rfl rfl (fun h => ?_) (fun h => ?_) | refine s_splitQ_n rfl rfl (fun h => ?_) (fun h => ?_)) <;> (try (first | contradiction | (exfalso; omega) | (exfalso; exact absurd hok.1 (by assumption))))) | refine s_splitQ_nb rfl rfl (fun h => ?_) (fun h => ?_) | refine s_splitQ rfl rfl (fun h => ?_) (fun h => ?_))) | refine lQ_then ?_ | refine lQ_ends ?_ | (refine kE ?_; (first | refine e_then_r ?_ | refine e_block_r ?_ | refine e_then_n ?_ | refine e_then_x ?_ | refine e_block_n ?_ | refine e_block_x ?_ | refine e_block_y rfl ?_)) | refine l_ends ?_)
    all_goals (refine kE ?_; refine s_leaveSF rfl rfl rfl fwA (fun w hw => ?_))
    all_goals (refine ⟨_, _, rfl, ?_, hw.toFresh (i := 0) rfl⟩; unfold scaled; rw [if_pos hok]; exact ⟨_, rfl, hu⟩)
  · (first | apply SYields.mk | apply SYieldsF.mk | skip); refine s_enter Tryz.func217 rfl Tryz.ntmps217 rfl ?_
    repeat' (first | exact rfl | (apply kO; (first | exact ov_pure rfl | (apply kOBin; (first | exact aBin)) | (apply kOCall; (first | (apply kCallF; (first | exact (ov_call rfl (fun w hw => c_iimageOk i _ w (riA hw))) | exact (ov_call rfl (fun w hw => c_isSide _ w)))) | (apply kCallB; (first | exact aBlt | exact aLenR)))) | (apply kOLoad; (first | exact aLdF | exact aLdR)) | exact ov_fieldAddr rfl | (apply kOIdx; (first | exact aIdx)) | exact aRest | exact aNew | exact (ov_field1 (ft := 31) rfl rfl rfl rfl))) | (refine kN ?_; (first | (refine kStore ?_; (first | refine s_store1 _ rfl rfl gpA rfl (by rfl) ?_ | refine s_storeS _ rfl rfl gpA rfl rfl (by rfl) ?_ | refine s_storeS _ rfl rfl gpA rfl (ones_img oiA) (by rfl) ?_)) | refine s_boxS rfl rfl (fun b hb => ?_) | refine s_allocS rfl (fun b hb => ?_) | refine s_box1 rfl rfl rfl (fun b hb => ?_) | refine s_alloc1 rfl rfl (fun b hb => ?_) | refine s_buildSlice0 rfl (fun b hb => ?_) | refine s_buildSlice rfl rfl rfl rfl rfl (fun b hb => ?_) | apply s_step)) | (refine kG ?_; (first | refine s_gyes rfl rfl rfl ?_ | refine s_gno rfl rfl rfl rfl rfl ?_ | ((first | refine s_split_d rfl rfl (fun h => ?_) (fun h => ?_) | refine s_split_n rfl rfl (fun h => ?_) (fun h => ?_)) <;> (try (first | contradiction | (exfalso; omega) | (exfalso; exact hok ⟨by assumption, by omega, by omega⟩)))) | refine s_split_nb rfl rfl (fun h => ?_) (fun h => ?_) | refine s_split rfl rfl (fun h => ?_) (fun h => ?_))) | refine l_then ?_ | (refine kC ?_; (first | refine c_seq ?_ | refine c_regionN rfl ?_ | refine c_ret ?_ | (refine kCond ?_; (first | refine c_cond_t rfl ?_ | refine c_cond_f rfl ?_ | ((first | refine c_cond_d rfl (fun h => ?_) (fun h => ?_) | refine c_cond_n rfl (fun h => ?_) (fun h => ?_)) <;> (try (first | contradiction | (exfalso; omega) | (exfalso; exact hok ⟨by assumption, by omega, by omega⟩)))) | refine c_cond_nb rfl (fun h => ?_) (fun h => ?_) | refine c_cond rfl (fun h => ?_) (fun h => ?_))) | refine c_block ?_ | refine c_skip ?_ | refine c_exit ?_ | refine c_regionQN rfl rfl (by decide +kernel) ?_)) | apply s_stepQ | (refine kQG ?_; (first | refine s_gyesQ rfl rfl rfl ?_ | refine s_gnoQ rfl rfl rfl rfl rfl ?_ | ((first | refine s_splitQ_d rfl rfl (fun h => ?_) (fun h => ?_) | refine s_splitQ_n rfl rfl (fun h => ?_) (fun h => ?_)) <;> (try (first | contradiction | (exfalso; omega) | (exfalso; exact hok ⟨by assumption, by omega, by omega⟩)))) | refine s_splitQ_nb rfl rfl (fun h => ?_) (fun h => ?_) | refine s_splitQ rfl rfl (fun h => ?_) (fun h => ?_))) | refine lQ_then ?_ | refine lQ_ends ?_ | (refine kE ?_; (first | refine e_then_r ?_ | refine e_block_r ?_ | refine e_then_n ?_ | refine e_then_x ?_ | refine e_block_n ?_ | refine e_block_x ?_ | refine e_block_y rfl ?_)) | refine l_ends ?_)
    all_goals (refine kE ?_; refine s_leaveSF rfl rfl rfl fwA (fun w hw => ?_))
    all_goals (unfold scaled; rw [if_neg hok]; exact ⟨_, [], rfl, ⟨_, rfl, OInts.nil _⟩, hw.toFresh0⟩)
theorem c_sscaled (i : DImg) (d : Value) (p q : Int) (W : World) (hd : RInts W d i.data) : SYieldsF Tryz.prog 179 #[vImg i d, .int .i64 p, .int .i64 q] (fun u H => OImg u (scaled i p q) H) W := by
  by_cases hok : i.ok ∧ (1 ≤ p ∧ p ≤ 16) ∧ (1 ≤ q ∧ q ≤ 16)
  · have hW := (hok.1).1; have hH := (hok.1).2.1; have hlen := (hok.1).2.2.1; have hlenN := (hok.1).lenN; have hwh := side_mul (w := i.W) (h := i.H) ⟨(hok.1).1.1, (hok.1).1.2, (hok.1).2.1.1, (hok.1).2.1.2⟩
    have hq := fun (y x : Nat) (hy : (y : Int) < q) (hx : (x : Int) < p) => scale_idx hok.1 hok.2.1 hok.2.2 (x := (x : Int)) (y := (y : Int)) ⟨by omega, hx⟩ ⟨by omega, hy⟩
    have hrow := fun (y : Nat) (hy : (y : Int) ≤ q) => rows_le hok.2.1 hok.2.2 hy
    have hpq := hok.2
    (first | apply SYields.mk | apply SYieldsF.mk | skip); refine s_enter Tryz.func179 rfl Tryz.ntmps179 rfl ?_
    repeat' (first | exact rfl | (apply kO; (first | exact ov_pure rfl | (apply kOBin; (first | exact aBin | exact (ov_mul rfl rfl (by have := hq j.1 x.1 (by omega) (by omega); omega)) | exact (ov_add rfl rfl (by have := hq j.1 x.1 (by omega) (by omega); omega)))) | (apply kOCall; (first | (apply kCallF; (first | exact (ov_call rfl (fun w hw => c_simageOk i _ w (riA hw))) | exact (ov_call rfl (fun w hw => c_l01In _ _ _ w)) | exact (ov_call rfl (fun w hw => c_sscalePoint _ _ _ w)))) | (apply kCallB; (first | exact aBlt | exact aLenR)))) | (apply kOLoad; (first | exact (ov_ldR0 (fun w hw => (rrA hw)) rfl rfl (by have := hq j.1 x.1 (by omega) (by omega); omega) rfl) | exact aLdF | exact aLdR)) | exact ov_fieldAddr rfl | (apply kOIdx; (first | exact (ov_idxR (fun w hw => (rrA hw)) rfl rfl (by have := hq j.1 x.1 (by omega) (by omega); omega)) | exact aIdx)) | exact aRest | exact aNew | exact (ov_field1 (ft := 31) rfl rfl rfl rfl))) | (refine kN ?_; (first | (refine kCall ?_; (first | (refine kWApp ?_; (refine s_appendI _ _ (ys := [_]) rfl rfl (by assumption) gpA gpA rfl rfl (by rw [mapTo_length]; have := hrow j.1 (by omega); omega) (by decide) rfl (fun v' H' hv' => ?_); have f1 := hv'.form; obtain ⟨ua, uc, rfl⟩ := f1)) | apply s_step)) | (refine kStore ?_; (first | refine s_store1 _ rfl rfl gpA rfl (by rfl) ?_ | refine s_storeS _ rfl rfl gpA rfl rfl (by rfl) ?_ | refine s_storeS _ rfl rfl gpA rfl (ones_img oiA) (by rfl) ?_)) | refine s_boxS rfl rfl (fun b hb => ?_) | refine s_allocS rfl (fun b hb => ?_) | refine s_box1 rfl rfl rfl (fun b hb => ?_) | refine s_alloc1 rfl rfl (fun b hb => ?_) | refine s_buildSlice0 rfl (fun b hb => ?_) | refine s_buildSlice rfl rfl rfl rfl rfl (fun b hb => ?_) | apply s_step)) | (refine kG ?_; (first | refine s_gyes rfl rfl rfl ?_ | refine s_gno rfl rfl rfl rfl rfl ?_ | ((first | refine s_split_d rfl rfl (fun h => ?_) (fun h => ?_) | refine s_split_n rfl rfl (fun h => ?_) (fun h => ?_)) <;> (try (first | contradiction | (exfalso; omega) | (exfalso; exact absurd hok.1 (by assumption))))) | refine s_split_nb rfl rfl (fun h => ?_) (fun h => ?_) | refine s_split rfl rfl (fun h => ?_) (fun h => ?_))) | (refine kS ?_; (first | refine h_exec rfl ?_ | refine h_take_nil rfl rfl rfl ?_ | refine h_take_pick rfl rfl rfl ?_ | refine h_nil ?_ | refine h_alt ?_ ?_ | apply h_take)) | (refine kBack ?_; (first | refine h_back_last rfl ?_ | refine h_backN rfl subA ?_)) | refine l_then ?_ | (refine kC ?_; (first | (refine kReg 10 ?_; refine c_regionSubN (SPlan.take 0 (SPlan.take 1 (SPlan.take 2 (SPlan.take 3 (SPlan.take 4 (SPlan.take 5 (SPlan.take 6 (SPlan.take 7 (SPlan.take 9 (SPlan.take 10 (SPlan.take 12 (SPlan.take 13 (SPlan.take 14 (SPlan.take 15 (SPlan.run 8 (SPlan.take 11 (SPlan.run 16 (SPlan.take 17 (SPlan.take 18 (SPlan.take 19 (SPlan.run 20 (SPlan.run 21 (SPlan.take 22 (SPlan.run 23 SPlan.done)))))))))))))))))))))))) (some 23) [true, false, true, true] rfl rfl rfl (by decide +kernel) ?_) | (refine c_loopV (ι := Nat × Value × SPiece) (fun j => (j.1 : Int) ≤ q ∧ OInts 3 j.2.1 (mapTo (scaleAt i p q) p (j.1 * p.toNat)) j.2.2) (fun j => [(8, .int .i64 (j.1 : Int))]) (fun j => [[(_, srow [.int .i64 p, .int .i64 q, j.2.1] 49)], j.2.2, _, _]) (fun j => q.toNat - j.1) (0, _, []) ⟨by dsimp only; omega, by dsimp only; rw [Nat.zero_mul]; exact OInts.nil _⟩ rfl (fun _ => rfl) ⟨rfl, trivial⟩ (fun w hw => hw.nil1) (fun j hj => ?_); obtain ⟨hj1, hj2⟩ := hj) | (refine c_loopV (ι := Nat × Value × SPiece) (fun x => (x.1 : Int) ≤ p ∧ OInts 3 x.2.1 (mapTo (scaleAt i p q) p (j.1 * p.toNat + x.1)) x.2.2) (fun x => [(9, .int .i64 (x.1 : Int))]) (fun x => [[(_, srow [.int .i64 p, .int .i64 q, x.2.1] 49)], x.2.2, _, _]) (fun x => p.toNat - x.1) (0, _, _) ⟨by dsimp only; omega, hj2⟩ rfl (fun _ => rfl) ⟨rfl, trivial⟩ (fun w hw => hw) (fun x hx => ?_); obtain ⟨hx1, hx2⟩ := hx) | refine c_seq ?_ | refine c_regionN rfl ?_ | refine c_ret ?_ | (refine kCond ?_; (first | refine c_cond_t rfl ?_ | refine c_cond_f rfl ?_ | ((first | refine c_cond_d rfl (fun h => ?_) (fun h => ?_) | refine c_cond_n rfl (fun h => ?_) (fun h => ?_)) <;> (try (first | contradiction | (exfalso; omega) | (exfalso; exact absurd hok.1 (by assumption))))) | refine c_cond_nb rfl (fun h => ?_) (fun h => ?_) | refine c_cond rfl (fun h => ?_) (fun h => ?_))) | refine c_block ?_ | refine c_skip ?_ | refine c_exit ?_ | refine c_regionQN rfl rfl (by decide +kernel) ?_)) | apply s_stepQ | (refine kQG ?_; (first | refine s_gyesQ rfl rfl rfl ?_ | refine s_gnoQ rfl rfl rfl rfl rfl ?_ | ((first | refine s_splitQ_d rfl rfl (fun h => ?_) (fun h => ?_) | refine s_splitQ_n rfl rfl (fun h => ?_) (fun h => ?_)) <;> (try (first | contradiction | (exfalso; omega) | (exfalso; exact absurd hok.1 (by assumption))))) | refine s_splitQ_nb rfl rfl (fun h => ?_) (fun h => ?_) | refine s_splitQ rfl rfl (fun h => ?_) (fun h => ?_))) | refine lQ_then ?_ | refine lQ_ends ?_ | (refine kE ?_; (first | refine e_then_r ?_ | refine e_block_r ?_ | refine e_then_n ?_ | refine e_then_x ?_ | refine e_block_n ?_ | refine e_block_x ?_ | refine e_block_y rfl ?_)) | refine l_ends ?_)
    · refine e_round (x.1 + 1, _, H') ⟨by dsimp only; omega, by dsimp only; rw [← mapTo_row (by omega) _ _ (by omega), ← (hq j.1 x.1 (by omega) (by omega)).2.2.2]; exact hv'⟩ ⟨rfl, (by repeat' first | exact trivial | refine ⟨rfl, ?_⟩)⟩ (fun w hw => hw.sub (by repeat' first | exact List.nil_sublist _ | exact List.Sublist.slnil | refine List.Sublist.cons_cons _ ?_ | refine List.Sublist.cons _ ?_)) (by dsimp only; omega)
    · rw [rows_next (w := p) (by omega)] at hx2
      exact e_round (j.1 + 1, x.2.1, x.2.2) ⟨by dsimp only; omega, hx2⟩ ⟨rfl, (by repeat' first | exact trivial | refine ⟨rfl, ?_⟩)⟩ (fun w hw => hw) (by dsimp only; omega)
    · rw [rows_end (w := p) (h := q) (by omega) (by omega)] at hj2
      refine s_leaveSF rfl rfl rfl fwA (fun w hw => ?_)
      refine ⟨_, _, rfl, ?_, hw.toFresh (i := 1) rfl⟩
      unfold scaled
      rw [if_pos hok]
      exact ⟨_, rfl, hj2⟩
  · (first | apply SYields.mk | apply SYieldsF.mk | skip); refine s_enter Tryz.func179 rfl Tryz.ntmps179 rfl ?_
    repeat' (first | exact rfl | (apply kO; (first | exact ov_pure rfl | (apply kOBin; (first | exact aBin)) | (apply kOCall; (first | (apply kCallF; (first | exact (ov_call rfl (fun w hw => c_simageOk i _ w (riA hw))) | exact (ov_call rfl (fun w hw => c_l01In _ _ _ w)))) | (apply kCallB; (first | exact aBlt | exact aLenR)))) | (apply kOLoad; (first | exact aLdF | exact aLdR)) | exact ov_fieldAddr rfl | (apply kOIdx; (first | exact aIdx)) | exact aRest | exact aNew | exact (ov_field1 (ft := 31) rfl rfl rfl rfl))) | (refine kN ?_; (first | (refine kStore ?_; (first | refine s_store1 _ rfl rfl gpA rfl (by rfl) ?_ | refine s_storeS _ rfl rfl gpA rfl rfl (by rfl) ?_ | refine s_storeS _ rfl rfl gpA rfl (ones_img oiA) (by rfl) ?_)) | refine s_boxS rfl rfl (fun b hb => ?_) | refine s_allocS rfl (fun b hb => ?_) | refine s_box1 rfl rfl rfl (fun b hb => ?_) | refine s_alloc1 rfl rfl (fun b hb => ?_) | refine s_buildSlice0 rfl (fun b hb => ?_) | refine s_buildSlice rfl rfl rfl rfl rfl (fun b hb => ?_) | apply s_step)) | (refine kG ?_; (first | refine s_gyes rfl rfl rfl ?_ | refine s_gno rfl rfl rfl rfl rfl ?_ | ((first | refine s_split_d rfl rfl (fun h => ?_) (fun h => ?_) | refine s_split_n rfl rfl (fun h => ?_) (fun h => ?_)) <;> (try (first | contradiction | (exfalso; omega) | (exfalso; exact hok ⟨by assumption, by omega, by omega⟩)))) | refine s_split_nb rfl rfl (fun h => ?_) (fun h => ?_) | refine s_split rfl rfl (fun h => ?_) (fun h => ?_))) | refine l_then ?_ | (refine kC ?_; (first | refine c_seq ?_ | refine c_regionN rfl ?_ | refine c_ret ?_ | (refine kCond ?_; (first | refine c_cond_t rfl ?_ | refine c_cond_f rfl ?_ | ((first | refine c_cond_d rfl (fun h => ?_) (fun h => ?_) | refine c_cond_n rfl (fun h => ?_) (fun h => ?_)) <;> (try (first | contradiction | (exfalso; omega) | (exfalso; exact hok ⟨by assumption, by omega, by omega⟩)))) | refine c_cond_nb rfl (fun h => ?_) (fun h => ?_) | refine c_cond rfl (fun h => ?_) (fun h => ?_))) | refine c_block ?_ | refine c_skip ?_ | refine c_exit ?_ | refine c_regionQN rfl rfl (by decide +kernel) ?_)) | apply s_stepQ | (refine kQG ?_; (first | refine s_gyesQ rfl rfl rfl ?_ | refine s_gnoQ rfl rfl rfl rfl rfl ?_ | ((first | refine s_splitQ_d rfl rfl (fun h => ?_) (fun h => ?_) | refine s_splitQ_n rfl rfl (fun h => ?_) (fun h => ?_)) <;> (try (first | contradiction | (exfalso; omega) | (exfalso; exact hok ⟨by assumption, by omega, by omega⟩)))) | refine s_splitQ_nb rfl rfl (fun h => ?_) (fun h => ?_) | refine s_splitQ rfl rfl (fun h => ?_) (fun h => ?_))) | refine lQ_then ?_ | refine lQ_ends ?_ | (refine kE ?_; (first | refine e_then_r ?_ | refine e_block_r ?_ | refine e_then_n ?_ | refine e_then_x ?_ | refine e_block_n ?_ | refine e_block_x ?_ | refine e_block_y rfl ?_)) | refine l_ends ?_)
    all_goals (refine kE ?_; refine s_leaveSF rfl rfl rfl fwA (fun w hw => ?_))
    all_goals (unfold scaled; rw [if_neg hok]; exact ⟨_, [], rfl, ⟨_, rfl, OInts.nil _⟩, hw.toFresh0⟩)
end Go.Proofs.YtfmjeakcfmmkfaaGreat
