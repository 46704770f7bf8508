/-
  Texts that the law stands on, part 2: K11, M3, M5, M8, M9, M13, M14, KZ, KU, KT, E1, CA, K13, L1, L2, M11.
-/
import Derived.Test.YtfmjeakcfmmkfaaGreatPaintIntoB1
/-
  Contracts: rectangles; the place of a surface; what painting costs.
-/
set_option linter.unusedVariables false
namespace Go.Proofs.YtfmjeakcfmmkfaaGreat
open Go Sx
attribute [local irreducible] Exit.then Exit.inBlock bodyPost
theorem ret_rect {r q : DRect} (h : r = q) : Ending.returned (vRect r) = .returned (vRect q) := by rw [h]
theorem c_irectOk (r : DRect) (w : World) : SYields Tryz.prog 202 #[vRect r] (.bool (decide r.ok)) w := by
  (first | apply SYields.mk | apply SYieldsF.mk | skip); refine s_enter Tryz.func202 rfl Tryz.ntmps202 rfl ?_
  repeat' (first | exact rfl | (apply kO; (first | exact ov_pure rfl | (apply kOBin; (first | exact aBin)) | (apply kOCall; (first | (apply kCallF; (first | exact (ov_call rfl (fun w hw => c_within _ _ _ w)))) | (apply kCallB; (first | exact aBlt | exact aLenR)))) | (apply kOLoad; (first | exact aLdF | exact aLdR)) | exact ov_fieldAddr rfl | (apply kOIdx; (first | exact aIdx)) | exact aRest | exact aNew | exact (ov_field1 (ft := 31) rfl rfl rfl rfl))) | (refine kN ?_; (first | (refine kStore ?_; (first | refine s_store1 _ rfl rfl gpA rfl (by rfl) ?_ | refine s_storeS _ rfl rfl gpA rfl rfl (by rfl) ?_ | refine s_storeS _ rfl rfl gpA rfl (ones_img oiA) (by rfl) ?_)) | refine s_boxS rfl rfl (fun b hb => ?_) | refine s_allocS rfl (fun b hb => ?_) | refine s_box1 rfl rfl rfl (fun b hb => ?_) | refine s_alloc1 rfl rfl (fun b hb => ?_) | refine s_buildSlice0 rfl (fun b hb => ?_) | refine s_buildSlice rfl rfl rfl rfl rfl (fun b hb => ?_) | apply s_step)) | (refine kG ?_; (first | refine s_gyes rfl rfl rfl ?_ | refine s_gno rfl rfl rfl rfl rfl ?_ | ((first | refine s_split_d rfl rfl (fun h => ?_) (fun h => ?_) | refine s_split_n rfl rfl (fun h => ?_) (fun h => ?_)) <;> (try (first | contradiction | (exfalso; omega)))) | refine s_split_nb rfl rfl (fun h => ?_) (fun h => ?_) | refine s_split rfl rfl (fun h => ?_) (fun h => ?_))) | refine l_then ?_ | (refine kC ?_; (first | refine c_seq ?_ | refine c_regionN rfl ?_ | refine c_ret ?_ | (refine kCond ?_; (first | refine c_cond_t rfl ?_ | refine c_cond_f rfl ?_ | ((first | refine c_cond_d rfl (fun h => ?_) (fun h => ?_) | refine c_cond_n rfl (fun h => ?_) (fun h => ?_)) <;> (try (first | contradiction | (exfalso; omega)))) | refine c_cond_nb rfl (fun h => ?_) (fun h => ?_) | refine c_cond rfl (fun h => ?_) (fun h => ?_))) | refine c_block ?_ | refine c_skip ?_ | refine c_exit ?_ | refine c_regionQN rfl rfl (by decide +kernel) ?_)) | apply s_stepQ | (refine kQG ?_; (first | refine s_gyesQ rfl rfl rfl ?_ | refine s_gnoQ rfl rfl rfl rfl rfl ?_ | ((first | refine s_splitQ_d rfl rfl (fun h => ?_) (fun h => ?_) | refine s_splitQ_n rfl rfl (fun h => ?_) (fun h => ?_)) <;> (try (first | contradiction | (exfalso; omega)))) | refine s_splitQ_nb rfl rfl (fun h => ?_) (fun h => ?_) | refine s_splitQ rfl rfl (fun h => ?_) (fun h => ?_))) | refine lQ_then ?_ | refine lQ_ends ?_ | (refine kE ?_; (first | refine e_then_r ?_ | refine e_block_r ?_ | refine e_then_n ?_ | refine e_then_x ?_ | refine e_block_n ?_ | refine e_block_x ?_ | refine e_block_y rfl ?_)) | refine l_ends ?_)
  all_goals refine s_leave1 rfl rfl (fun w hw => ⟨?_, hw.below⟩)
  all_goals first | (refine ret_false (fun hh => ?_); unfold DRect.ok at hh; omega) | exact ret_dec (by unfold DRect.ok; omega)
theorem c_srectOk (r : DRect) (w : World) : SYields Tryz.prog 205 #[vRect r] (.bool (decide r.ok)) w := by
  (first | apply SYields.mk | apply SYieldsF.mk | skip); refine s_enter Tryz.func205 rfl Tryz.ntmps205 rfl ?_
  repeat' (first | exact rfl | (apply kO; (first | exact ov_pure rfl | (apply kOBin; (first | exact aBin)) | (apply kOCall; (first | (apply kCallF; (first | exact (ov_call rfl (fun w hw => c_l01In _ _ _ w)))) | (apply kCallB; (first | exact aBlt | exact aLenR)))) | (apply kOLoad; (first | exact aLdF | exact aLdR)) | exact ov_fieldAddr rfl | (apply kOIdx; (first | exact aIdx)) | exact aRest | exact aNew | exact (ov_field1 (ft := 31) rfl rfl rfl rfl))) | (refine kN ?_; (first | (refine kStore ?_; (first | refine s_store1 _ rfl rfl gpA rfl (by rfl) ?_ | refine s_storeS _ rfl rfl gpA rfl rfl (by rfl) ?_ | refine s_storeS _ rfl rfl gpA rfl (ones_img oiA) (by rfl) ?_)) | refine s_boxS rfl rfl (fun b hb => ?_) | refine s_allocS rfl (fun b hb => ?_) | refine s_box1 rfl rfl rfl (fun b hb => ?_) | refine s_alloc1 rfl rfl (fun b hb => ?_) | refine s_buildSlice0 rfl (fun b hb => ?_) | refine s_buildSlice rfl rfl rfl rfl rfl (fun b hb => ?_) | apply s_step)) | (refine kG ?_; (first | refine s_gyes rfl rfl rfl ?_ | refine s_gno rfl rfl rfl rfl rfl ?_ | ((first | refine s_split_d rfl rfl (fun h => ?_) (fun h => ?_) | refine s_split_n rfl rfl (fun h => ?_) (fun h => ?_)) <;> (try (first | contradiction | (exfalso; omega)))) | refine s_split_nb rfl rfl (fun h => ?_) (fun h => ?_) | refine s_split rfl rfl (fun h => ?_) (fun h => ?_))) | refine l_then ?_ | (refine kC ?_; (first | refine c_seq ?_ | refine c_regionN rfl ?_ | refine c_ret ?_ | (refine kCond ?_; (first | refine c_cond_t rfl ?_ | refine c_cond_f rfl ?_ | ((first | refine c_cond_d rfl (fun h => ?_) (fun h => ?_) | refine c_cond_n rfl (fun h => ?_) (fun h => ?_)) <;> (try (first | contradiction | (exfalso; omega)))) | refine c_cond_nb rfl (fun h => ?_) (fun h => ?_) | refine c_cond rfl (fun h => ?_) (fun h => ?_))) | refine c_block ?_ | refine c_skip ?_ | refine c_exit ?_ | refine c_regionQN rfl rfl (by decide +kernel) ?_)) | apply s_stepQ | (refine kQG ?_; (first | refine s_gyesQ rfl rfl rfl ?_ | refine s_gnoQ rfl rfl rfl rfl rfl ?_ | ((first | refine s_splitQ_d rfl rfl (fun h => ?_) (fun h => ?_) | refine s_splitQ_n rfl rfl (fun h => ?_) (fun h => ?_)) <;> (try (first | contradiction | (exfalso; omega)))) | refine s_splitQ_nb rfl rfl (fun h => ?_) (fun h => ?_) | refine s_splitQ rfl rfl (fun h => ?_) (fun h => ?_))) | refine lQ_then ?_ | refine lQ_ends ?_ | (refine kE ?_; (first | refine e_then_r ?_ | refine e_block_r ?_ | refine e_then_n ?_ | refine e_then_x ?_ | refine e_block_n ?_ | refine e_block_x ?_ | refine e_block_y rfl ?_)) | refine l_ends ?_)
  all_goals refine s_leave1 rfl rfl (fun w hw => ⟨?_, hw.below⟩)
  all_goals first | (refine ret_false (fun hh => ?_); unfold DRect.ok at hh; omega) | exact ret_dec (by unfold DRect.ok; omega)
theorem ret_rectv {a b c d : Int} {q : DRect} (h : (⟨a, b, c, d⟩ : DRect) = q) : Ending.returned (.agg [Value.int .i64 a, .int .i64 b, .int .i64 c, .int .i64 d].toArray) = .returned (vRect q) := by rw [← h]
theorem ret_pair {a b c d : Int} (h1 : a = c) (h2 : b = d) : Ending.returned (.tuple #[.int .i64 a, .int .i64 b]) = .returned (.tuple #[.int .i64 c, .int .i64 d]) := by rw [h1, h2]
theorem c_iintersect (p q : DRect) (w : World) : SYields Tryz.prog 150 #[vRect p, vRect q] (vRect (p.inter q)) w := by
  by_cases hp : p.ok
  · by_cases hq : q.ok
    · have hp' := hp
      have hq' := hq
      unfold DRect.ok at hp' hq'
      (first | apply SYields.mk | apply SYieldsF.mk | skip); refine s_enter Tryz.func150 rfl Tryz.ntmps150 rfl ?_
      repeat' (first | exact rfl | (apply kO; (first | exact ov_pure rfl | (apply kOBin; (first | exact aBin)) | (apply kOCall; (first | (apply kCallF; (first | exact (ov_call rfl (fun w hw => c_irectOk _ w)))) | (apply kCallB; (first | exact aBlt | exact aLenR)))) | (apply kOLoad; (first | exact aLdF | exact aLdR)) | exact ov_fieldAddr rfl | (apply kOIdx; (first | exact aIdx)) | exact aRest | exact aNew | exact (ov_field1 (ft := 31) rfl rfl rfl rfl))) | (refine kN ?_; (first | (refine kStore ?_; (first | refine s_store1 _ rfl rfl gpA rfl (by rfl) ?_ | refine s_storeS _ rfl rfl gpA rfl rfl (by rfl) ?_ | refine s_storeS _ rfl rfl gpA rfl (ones_img oiA) (by rfl) ?_)) | refine s_boxS rfl rfl (fun b hb => ?_) | refine s_allocS rfl (fun b hb => ?_) | refine s_box1 rfl rfl rfl (fun b hb => ?_) | refine s_alloc1 rfl rfl (fun b hb => ?_) | refine s_buildSlice0 rfl (fun b hb => ?_) | refine s_buildSlice rfl rfl rfl rfl rfl (fun b hb => ?_) | apply s_step)) | (refine kG ?_; (first | refine s_gyes rfl rfl rfl ?_ | refine s_gno rfl rfl rfl rfl rfl ?_ | ((first | refine s_split_d rfl rfl (fun h => ?_) (fun h => ?_) | refine s_split_n rfl rfl (fun h => ?_) (fun h => ?_)) <;> (try (first | contradiction | (exfalso; omega)))) | refine s_split_nb rfl rfl (fun h => ?_) (fun h => ?_) | refine s_split rfl rfl (fun h => ?_) (fun h => ?_))) | refine l_then ?_ | (refine kC ?_; (first | refine c_seq ?_ | refine c_regionN rfl ?_ | refine c_ret ?_ | (refine kCond ?_; (first | refine c_cond_t rfl ?_ | refine c_cond_f rfl ?_ | ((first | refine c_cond_d rfl (fun h => ?_) (fun h => ?_) | refine c_cond_n rfl (fun h => ?_) (fun h => ?_)) <;> (try (first | contradiction | (exfalso; omega)))) | refine c_cond_nb rfl (fun h => ?_) (fun h => ?_) | refine c_cond rfl (fun h => ?_) (fun h => ?_))) | refine c_block ?_ | refine c_skip ?_ | refine c_exit ?_ | refine c_regionQN rfl rfl (by decide +kernel) ?_)) | apply s_stepQ | (refine kQG ?_; (first | refine s_gyesQ rfl rfl rfl ?_ | refine s_gnoQ rfl rfl rfl rfl rfl ?_ | ((first | refine s_splitQ_d rfl rfl (fun h => ?_) (fun h => ?_) | refine s_splitQ_n rfl rfl (fun h => ?_) (fun h => ?_)) <;> (try (first | contradiction | (exfalso; omega)))) | refine s_splitQ_nb rfl rfl (fun h => ?_) (fun h => ?_) | refine s_splitQ rfl rfl (fun h => ?_) (fun h => ?_))) | refine lQ_then ?_ | refine lQ_ends ?_ | (refine kE ?_; (first | refine e_then_r ?_ | refine e_block_r ?_ | refine e_then_n ?_ | refine e_then_x ?_ | refine e_block_n ?_ | refine e_block_x ?_ | refine e_block_y rfl ?_)) | refine l_ends ?_)
      all_goals (refine kE ?_; refine s_leaveSF rfl rfl rfl fwA (fun w hw => ?_))
      all_goals refine ⟨ret_rectv ?_, hw.below⟩
      all_goals (unfold DRect.inter; rw [if_pos ⟨hp, hq⟩]; first | rw [if_pos (by omega)]; rfl | rw [if_neg (by omega)])
    · (first | apply SYields.mk | apply SYieldsF.mk | skip); refine s_enter Tryz.func150 rfl Tryz.ntmps150 rfl ?_
      repeat' (first | exact rfl | (apply kO; (first | exact ov_pure rfl | (apply kOBin; (first | exact aBin)) | (apply kOCall; (first | (apply kCallF; (first | exact (ov_call rfl (fun w hw => c_irectOk _ w)))) | (apply kCallB; (first | exact aBlt | exact aLenR)))) | (apply kOLoad; (first | exact aLdF | exact aLdR)) | exact ov_fieldAddr rfl | (apply kOIdx; (first | exact aIdx)) | exact aRest | exact aNew | exact (ov_field1 (ft := 31) rfl rfl rfl rfl))) | (refine kN ?_; (first | (refine kStore ?_; (first | refine s_store1 _ rfl rfl gpA rfl (by rfl) ?_ | refine s_storeS _ rfl rfl gpA rfl rfl (by rfl) ?_ | refine s_storeS _ rfl rfl gpA rfl (ones_img oiA) (by rfl) ?_)) | refine s_boxS rfl rfl (fun b hb => ?_) | refine s_allocS rfl (fun b hb => ?_) | refine s_box1 rfl rfl rfl (fun b hb => ?_) | refine s_alloc1 rfl rfl (fun b hb => ?_) | refine s_buildSlice0 rfl (fun b hb => ?_) | refine s_buildSlice rfl rfl rfl rfl rfl (fun b hb => ?_) | apply s_step)) | (refine kG ?_; (first | refine s_gyes rfl rfl rfl ?_ | refine s_gno rfl rfl rfl rfl rfl ?_ | ((first | refine s_split_d rfl rfl (fun h => ?_) (fun h => ?_) | refine s_split_n rfl rfl (fun h => ?_) (fun h => ?_)) <;> (try (first | contradiction | (exfalso; omega)))) | refine s_split_nb rfl rfl (fun h => ?_) (fun h => ?_) | refine s_split rfl rfl (fun h => ?_) (fun h => ?_))) | refine l_then ?_ | (refine kC ?_; (first | refine c_seq ?_ | refine c_regionN rfl ?_ | refine c_ret ?_ | (refine kCond ?_; (first | refine c_cond_t rfl ?_ | refine c_cond_f rfl ?_ | ((first | refine c_cond_d rfl (fun h => ?_) (fun h => ?_) | refine c_cond_n rfl (fun h => ?_) (fun h => ?_)) <;> (try (first | contradiction | (exfalso; omega)))) | refine c_cond_nb rfl (fun h => ?_) (fun h => ?_) | refine c_cond rfl (fun h => ?_) (fun h => ?_))) | refine c_block ?_ | refine c_skip ?_ | refine c_exit ?_ | refine c_regionQN rfl rfl (by decide +kernel) ?_)) | apply s_stepQ | (refine kQG ?_; (first | refine s_gyesQ rfl rfl rfl ?_ | refine s_gnoQ rfl rfl rfl rfl rfl ?_ | ((first | refine s_splitQ_d rfl rfl (fun h => ?_) (fun h => ?_) | refine s_splitQ_n rfl rfl (fun h => ?_) (fun h => ?_)) <;> (try (first | contradiction | (exfalso; omega)))) | refine s_splitQ_nb rfl rfl (fun h => ?_) (fun h => ?_) | refine s_splitQ rfl rfl (fun h => ?_) (fun h => ?_))) | refine lQ_then ?_ | refine lQ_ends ?_ | (refine kE ?_; (first | refine e_then_r ?_ | refine e_block_r ?_ | refine e_then_n ?_ | refine e_then_x ?_ | refine e_block_n ?_ | refine e_block_x ?_ | refine e_block_y rfl ?_)) | refine l_ends ?_)
      all_goals (refine kE ?_; refine s_leaveSF rfl rfl rfl fwA (fun w hw => ?_))
      all_goals refine ⟨ret_rectv ?_, hw.below⟩
      all_goals (unfold DRect.inter; rw [if_neg (fun h => hq h.2)]; rfl)
  · (first | apply SYields.mk | apply SYieldsF.mk | skip); refine s_enter Tryz.func150 rfl Tryz.ntmps150 rfl ?_
    repeat' (first | exact rfl | (apply kO; (first | exact ov_pure rfl | (apply kOBin; (first | exact aBin)) | (apply kOCall; (first | (apply kCallF; (first | exact (ov_call rfl (fun w hw => c_irectOk _ w)))) | (apply kCallB; (first | exact aBlt | exact aLenR)))) | (apply kOLoad; (first | exact aLdF | exact aLdR)) | exact ov_fieldAddr rfl | (apply kOIdx; (first | exact aIdx)) | exact aRest | exact aNew | exact (ov_field1 (ft := 31) rfl rfl rfl rfl))) | (refine kN ?_; (first | (refine kStore ?_; (first | refine s_store1 _ rfl rfl gpA rfl (by rfl) ?_ | refine s_storeS _ rfl rfl gpA rfl rfl (by rfl) ?_ | refine s_storeS _ rfl rfl gpA rfl (ones_img oiA) (by rfl) ?_)) | refine s_boxS rfl rfl (fun b hb => ?_) | refine s_allocS rfl (fun b hb => ?_) | refine s_box1 rfl rfl rfl (fun b hb => ?_) | refine s_alloc1 rfl rfl (fun b hb => ?_) | refine s_buildSlice0 rfl (fun b hb => ?_) | refine s_buildSlice rfl rfl rfl rfl rfl (fun b hb => ?_) | apply s_step)) | (refine kG ?_; (first | refine s_gyes rfl rfl rfl ?_ | refine s_gno rfl rfl rfl rfl rfl ?_ | ((first | refine s_split_d rfl rfl (fun h => ?_) (fun h => ?_) | refine s_split_n rfl rfl (fun h => ?_) (fun h => ?_)) <;> (try (first | contradiction | (exfalso; omega)))) | refine s_split_nb rfl rfl (fun h => ?_) (fun h => ?_) | refine s_split rfl rfl (fun h => ?_) (fun h => ?_))) | refine l_then ?_ | (refine kC ?_; (first | refine c_seq ?_ | refine c_regionN rfl ?_ | refine c_ret ?_ | (refine kCond ?_; (first | refine c_cond_t rfl ?_ | refine c_cond_f rfl ?_ | ((first | refine c_cond_d rfl (fun h => ?_) (fun h => ?_) | refine c_cond_n rfl (fun h => ?_) (fun h => ?_)) <;> (try (first | contradiction | (exfalso; omega)))) | refine c_cond_nb rfl (fun h => ?_) (fun h => ?_) | refine c_cond rfl (fun h => ?_) (fun h => ?_))) | refine c_block ?_ | refine c_skip ?_ | refine c_exit ?_ | refine c_regionQN rfl rfl (by decide +kernel) ?_)) | apply s_stepQ | (refine kQG ?_; (first | refine s_gyesQ rfl rfl rfl ?_ | refine s_gnoQ rfl rfl rfl rfl rfl ?_ | ((first | refine s_splitQ_d rfl rfl (fun h => ?_) (fun h => ?_) | refine s_splitQ_n rfl rfl (fun h => ?_) (fun h => ?_)) <;> (try (first | contradiction | (exfalso; omega)))) | refine s_splitQ_nb rfl rfl (fun h => ?_) (fun h => ?_) | refine s_splitQ rfl rfl (fun h => ?_) (fun h => ?_))) | refine lQ_then ?_ | refine lQ_ends ?_ | (refine kE ?_; (first | refine e_then_r ?_ | refine e_block_r ?_ | refine e_then_n ?_ | refine e_then_x ?_ | refine e_block_n ?_ | refine e_block_x ?_ | refine e_block_y rfl ?_)) | refine l_ends ?_)
    all_goals (refine kE ?_; refine s_leaveSF rfl rfl rfl fwA (fun w hw => ?_))
    all_goals refine ⟨ret_rectv ?_, hw.below⟩
    all_goals (unfold DRect.inter; rw [if_neg (fun h => hp h.1)]; rfl)
theorem c_sintersect (p q : DRect) (w : World) : SYields Tryz.prog 158 #[vRect p, vRect q] (vRect (p.inter q)) w := by
  by_cases hp : p.ok
  · by_cases hq : q.ok
    · have hp' := hp
      have hq' := hq
      unfold DRect.ok at hp' hq'
      (first | apply SYields.mk | apply SYieldsF.mk | skip); refine s_enter Tryz.func158 rfl Tryz.ntmps158 rfl ?_
      repeat' (first | exact rfl | (apply kO; (first | exact ov_pure rfl | (apply kOBin; (first | exact aBin)) | (apply kOCall; (first | (apply kCallF; (first | exact (ov_call rfl (fun w hw => c_srectOk _ w)))) | (apply kCallB; (first | exact aBlt | exact aLenR)))) | (apply kOLoad; (first | exact aLdF | exact aLdR)) | exact ov_fieldAddr rfl | (apply kOIdx; (first | exact aIdx)) | exact aRest | exact aNew | exact (ov_field1 (ft := 31) rfl rfl rfl rfl))) | (refine kN ?_; (first | (refine kStore ?_; (first | refine s_store1 _ rfl rfl gpA rfl (by rfl) ?_ | refine s_storeS _ rfl rfl gpA rfl rfl (by rfl) ?_ | refine s_storeS _ rfl rfl gpA rfl (ones_img oiA) (by rfl) ?_)) | refine s_boxS rfl rfl (fun b hb => ?_) | refine s_allocS rfl (fun b hb => ?_) | refine s_box1 rfl rfl rfl (fun b hb => ?_) | refine s_alloc1 rfl rfl (fun b hb => ?_) | refine s_buildSlice0 rfl (fun b hb => ?_) | refine s_buildSlice rfl rfl rfl rfl rfl (fun b hb => ?_) | apply s_step)) | (refine kG ?_; (first | refine s_gyes rfl rfl rfl ?_ | refine s_gno rfl rfl rfl rfl rfl ?_ | ((first | refine s_split_d rfl rfl (fun h => ?_) (fun h => ?_) | refine s_split_n rfl rfl (fun h => ?_) (fun h => ?_)) <;> (try (first | contradiction | (exfalso; omega)))) | refine s_split_nb rfl rfl (fun h => ?_) (fun h => ?_) | refine s_split rfl rfl (fun h => ?_) (fun h => ?_))) | refine l_then ?_ | (refine kC ?_; (first | refine c_seq ?_ | refine c_regionN rfl ?_ | refine c_ret ?_ | (refine kCond ?_; (first | refine c_cond_t rfl ?_ | refine c_cond_f rfl ?_ | ((first | refine c_cond_d rfl (fun h => ?_) (fun h => ?_) | refine c_cond_n rfl (fun h => ?_) (fun h => ?_)) <;> (try (first | contradiction | (exfalso; omega)))) | refine c_cond_nb rfl (fun h => ?_) (fun h => ?_) | refine c_cond rfl (fun h => ?_) (fun h => ?_))) | refine c_block ?_ | refine c_skip ?_ | refine c_exit ?_ | refine c_regionQN rfl rfl (by decide +kernel) ?_)) | apply s_stepQ | (refine kQG ?_; (first | refine s_gyesQ rfl rfl rfl ?_ | refine s_gnoQ rfl rfl rfl rfl rfl ?_ | ((first | refine s_splitQ_d rfl rfl (fun h => ?_) (fun h => ?_) | refine s_splitQ_n rfl rfl (fun h => ?_) (fun h => ?_)) <;> (try (first | contradiction | (exfalso; omega)))) | refine s_splitQ_nb rfl rfl (fun h => ?_) (fun h => ?_) | refine s_splitQ rfl rfl (fun h => ?_) (fun h => ?_))) | refine lQ_then ?_ | refine lQ_ends ?_ | (refine kE ?_; (first | refine e_then_r ?_ | refine e_block_r ?_ | refine e_then_n ?_ | refine e_then_x ?_ | refine e_block_n ?_ | refine e_block_x ?_ | refine e_block_y rfl ?_)) | refine l_ends ?_)
      all_goals (refine kE ?_; refine s_leaveSF rfl rfl rfl fwA (fun w hw => ?_))
      all_goals refine ⟨ret_rectv ?_, hw.below⟩
      all_goals (unfold DRect.inter; rw [if_pos ⟨hp, hq⟩]; first | rw [if_pos (by omega)]; rfl | rw [if_neg (by omega)])
    · (first | apply SYields.mk | apply SYieldsF.mk | skip); refine s_enter Tryz.func158 rfl Tryz.ntmps158 rfl ?_
      repeat' (first | exact rfl | (apply kO; (first | exact ov_pure rfl | (apply kOBin; (first | exact aBin)) | (apply kOCall; (first | (apply kCallF; (first | exact (ov_call rfl (fun w hw => c_srectOk _ w)))) | (apply kCallB; (first | exact aBlt | exact aLenR)))) | (apply kOLoad; (first | exact aLdF | exact aLdR)) | exact ov_fieldAddr rfl | (apply kOIdx; (first | exact aIdx)) | exact aRest | exact aNew | exact (ov_field1 (ft := 31) rfl rfl rfl rfl))) | (refine kN ?_; (first | (refine kStore ?_; (first | refine s_store1 _ rfl rfl gpA rfl (by rfl) ?_ | refine s_storeS _ rfl rfl gpA rfl rfl (by rfl) ?_ | refine s_storeS _ rfl rfl gpA rfl (ones_img oiA) (by rfl) ?_)) | refine s_boxS rfl rfl (fun b hb => ?_) | refine s_allocS rfl (fun b hb => ?_) | refine s_box1 rfl rfl rfl (fun b hb => ?_) | refine s_alloc1 rfl rfl (fun b hb => ?_) | refine s_buildSlice0 rfl (fun b hb => ?_) | refine s_buildSlice rfl rfl rfl rfl rfl (fun b hb => ?_) | apply s_step)) | (refine kG ?_; (first | refine s_gyes rfl rfl rfl ?_ | refine s_gno rfl rfl rfl rfl rfl ?_ | ((first | refine s_split_d rfl rfl (fun h => ?_) (fun h => ?_) | refine s_split_n rfl rfl (fun h => ?_) (fun h => ?_)) <;> (try (first | contradiction | (exfalso; omega)))) | refine s_split_nb rfl rfl (fun h => ?_) (fun h => ?_) | refine s_split rfl rfl (fun h => ?_) (fun h => ?_))) | refine l_then ?_ | (refine kC ?_; (first | refine c_seq ?_ | refine c_regionN rfl ?_ | refine c_ret ?_ | (refine kCond ?_; (first | refine c_cond_t rfl ?_ | refine c_cond_f rfl ?_ | ((first | refine c_cond_d rfl (fun h => ?_) (fun h => ?_) | refine c_cond_n rfl (fun h => ?_) (fun h => ?_)) <;> (try (first | contradiction | (exfalso; omega)))) | refine c_cond_nb rfl (fun h => ?_) (fun h => ?_) | refine c_cond rfl (fun h => ?_) (fun h => ?_))) | refine c_block ?_ | refine c_skip ?_ | refine c_exit ?_ | refine c_regionQN rfl rfl (by decide +kernel) ?_)) | apply s_stepQ | (refine kQG ?_; (first | refine s_gyesQ rfl rfl rfl ?_ | refine s_gnoQ rfl rfl rfl rfl rfl ?_ | ((first | refine s_splitQ_d rfl rfl (fun h => ?_) (fun h => ?_) | refine s_splitQ_n rfl rfl (fun h => ?_) (fun h => ?_)) <;> (try (first | contradiction | (exfalso; omega)))) | refine s_splitQ_nb rfl rfl (fun h => ?_) (fun h => ?_) | refine s_splitQ rfl rfl (fun h => ?_) (fun h => ?_))) | refine lQ_then ?_ | refine lQ_ends ?_ | (refine kE ?_; (first | refine e_then_r ?_ | refine e_block_r ?_ | refine e_then_n ?_ | refine e_then_x ?_ | refine e_block_n ?_ | refine e_block_x ?_ | refine e_block_y rfl ?_)) | refine l_ends ?_)
      all_goals (refine kE ?_; refine s_leaveSF rfl rfl rfl fwA (fun w hw => ?_))
      all_goals refine ⟨ret_rectv ?_, hw.below⟩
      all_goals (unfold DRect.inter; rw [if_neg (fun h => hq h.2)]; rfl)
  · (first | apply SYields.mk | apply SYieldsF.mk | skip); refine s_enter Tryz.func158 rfl Tryz.ntmps158 rfl ?_
    repeat' (first | exact rfl | (apply kO; (first | exact ov_pure rfl | (apply kOBin; (first | exact aBin)) | (apply kOCall; (first | (apply kCallF; (first | exact (ov_call rfl (fun w hw => c_srectOk _ w)))) | (apply kCallB; (first | exact aBlt | exact aLenR)))) | (apply kOLoad; (first | exact aLdF | exact aLdR)) | exact ov_fieldAddr rfl | (apply kOIdx; (first | exact aIdx)) | exact aRest | exact aNew | exact (ov_field1 (ft := 31) rfl rfl rfl rfl))) | (refine kN ?_; (first | (refine kStore ?_; (first | refine s_store1 _ rfl rfl gpA rfl (by rfl) ?_ | refine s_storeS _ rfl rfl gpA rfl rfl (by rfl) ?_ | refine s_storeS _ rfl rfl gpA rfl (ones_img oiA) (by rfl) ?_)) | refine s_boxS rfl rfl (fun b hb => ?_) | refine s_allocS rfl (fun b hb => ?_) | refine s_box1 rfl rfl rfl (fun b hb => ?_) | refine s_alloc1 rfl rfl (fun b hb => ?_) | refine s_buildSlice0 rfl (fun b hb => ?_) | refine s_buildSlice rfl rfl rfl rfl rfl (fun b hb => ?_) | apply s_step)) | (refine kG ?_; (first | refine s_gyes rfl rfl rfl ?_ | refine s_gno rfl rfl rfl rfl rfl ?_ | ((first | refine s_split_d rfl rfl (fun h => ?_) (fun h => ?_) | refine s_split_n rfl rfl (fun h => ?_) (fun h => ?_)) <;> (try (first | contradiction | (exfalso; omega)))) | refine s_split_nb rfl rfl (fun h => ?_) (fun h => ?_) | refine s_split rfl rfl (fun h => ?_) (fun h => ?_))) | refine l_then ?_ | (refine kC ?_; (first | refine c_seq ?_ | refine c_regionN rfl ?_ | refine c_ret ?_ | (refine kCond ?_; (first | refine c_cond_t rfl ?_ | refine c_cond_f rfl ?_ | ((first | refine c_cond_d rfl (fun h => ?_) (fun h => ?_) | refine c_cond_n rfl (fun h => ?_) (fun h => ?_)) <;> (try (first | contradiction | (exfalso; omega)))) | refine c_cond_nb rfl (fun h => ?_) (fun h => ?_) | refine c_cond rfl (fun h => ?_) (fun h => ?_))) | refine c_block ?_ | refine c_skip ?_ | refine c_exit ?_ | refine c_regionQN rfl rfl (by decide +kernel) ?_)) | apply s_stepQ | (refine kQG ?_; (first | refine s_gyesQ rfl rfl rfl ?_ | refine s_gnoQ rfl rfl rfl rfl rfl ?_ | ((first | refine s_splitQ_d rfl rfl (fun h => ?_) (fun h => ?_) | refine s_splitQ_n rfl rfl (fun h => ?_) (fun h => ?_)) <;> (try (first | contradiction | (exfalso; omega)))) | refine s_splitQ_nb rfl rfl (fun h => ?_) (fun h => ?_) | refine s_splitQ rfl rfl (fun h => ?_) (fun h => ?_))) | refine lQ_then ?_ | refine lQ_ends ?_ | (refine kE ?_; (first | refine e_then_r ?_ | refine e_block_r ?_ | refine e_then_n ?_ | refine e_then_x ?_ | refine e_block_n ?_ | refine e_block_x ?_ | refine e_block_y rfl ?_)) | refine l_ends ?_)
    all_goals (refine kE ?_; refine s_leaveSF rfl rfl rfl fwA (fun w hw => ?_))
    all_goals refine ⟨ret_rectv ?_, hw.below⟩
    all_goals (unfold DRect.inter; rw [if_neg (fun h => hp h.1)]; rfl)
theorem c_iorientSize (w h o : Int) (W : World) : SYields Tryz.prog 223 #[.int .i64 w, .int .i64 h, .int .i64 o] (.tuple #[.int .i64 (orientSize w h o).1, .int .i64 (orientSize w h o).2]) W := by
  (first | apply SYields.mk | apply SYieldsF.mk | skip); refine s_enter Tryz.func223 rfl Tryz.ntmps223 rfl ?_
  repeat' (first | exact rfl | (apply kO; (first | exact ov_pure rfl | (apply kOBin; (first | exact aBin)) | (apply kOCall; (first | (apply kCallF; (first | exact (ov_call rfl (fun w hw => c_isSide _ w)) | exact (ov_call rfl (fun w hw => c_isOrient _ w)))) | (apply kCallB; (first | exact aBlt | exact aLenR)))) | (apply kOLoad; (first | exact aLdF | exact aLdR)) | exact ov_fieldAddr rfl | (apply kOIdx; (first | exact aIdx)) | exact aRest | exact aNew | exact (ov_field1 (ft := 31) rfl rfl rfl rfl))) | (refine kN ?_; (first | (refine kStore ?_; (first | refine s_store1 _ rfl rfl gpA rfl (by rfl) ?_ | refine s_storeS _ rfl rfl gpA rfl rfl (by rfl) ?_ | refine s_storeS _ rfl rfl gpA rfl (ones_img oiA) (by rfl) ?_)) | refine s_boxS rfl rfl (fun b hb => ?_) | refine s_allocS rfl (fun b hb => ?_) | refine s_box1 rfl rfl rfl (fun b hb => ?_) | refine s_alloc1 rfl rfl (fun b hb => ?_) | refine s_buildSlice0 rfl (fun b hb => ?_) | refine s_buildSlice rfl rfl rfl rfl rfl (fun b hb => ?_) | apply s_step)) | (refine kG ?_; (first | refine s_gyes rfl rfl rfl ?_ | refine s_gno rfl rfl rfl rfl rfl ?_ | ((first | refine s_split_d rfl rfl (fun h => ?_) (fun h => ?_) | refine s_split_n rfl rfl (fun h => ?_) (fun h => ?_)) <;> (try (first | contradiction | (exfalso; omega)))) | refine s_split_nb rfl rfl (fun h => ?_) (fun h => ?_) | refine s_split rfl rfl (fun h => ?_) (fun h => ?_))) | refine l_then ?_ | (refine kC ?_; (first | refine c_seq ?_ | refine c_regionN rfl ?_ | refine c_ret ?_ | (refine kCond ?_; (first | refine c_cond_t rfl ?_ | refine c_cond_f rfl ?_ | ((first | refine c_cond_d rfl (fun h => ?_) (fun h => ?_) | refine c_cond_n rfl (fun h => ?_) (fun h => ?_)) <;> (try (first | contradiction | (exfalso; omega)))) | refine c_cond_nb rfl (fun h => ?_) (fun h => ?_) | refine c_cond rfl (fun h => ?_) (fun h => ?_))) | refine c_block ?_ | refine c_skip ?_ | refine c_exit ?_ | refine c_regionQN rfl rfl (by decide +kernel) ?_)) | apply s_stepQ | (refine kQG ?_; (first | refine s_gyesQ rfl rfl rfl ?_ | refine s_gnoQ rfl rfl rfl rfl rfl ?_ | ((first | refine s_splitQ_d rfl rfl (fun h => ?_) (fun h => ?_) | refine s_splitQ_n rfl rfl (fun h => ?_) (fun h => ?_)) <;> (try (first | contradiction | (exfalso; omega)))) | refine s_splitQ_nb rfl rfl (fun h => ?_) (fun h => ?_) | refine s_splitQ rfl rfl (fun h => ?_) (fun h => ?_))) | refine lQ_then ?_ | refine lQ_ends ?_ | (refine kE ?_; (first | refine e_then_r ?_ | refine e_block_r ?_ | refine e_then_n ?_ | refine e_then_x ?_ | refine e_block_n ?_ | refine e_block_x ?_ | refine e_block_y rfl ?_)) | refine l_ends ?_)
  all_goals refine s_leave2 rfl rfl rfl (fun w hw => ⟨?_, hw.below⟩)
  all_goals (unfold orientSize; first | (rw [if_neg (by unfold orientOk; omega)]; done) | (rw [if_pos (by unfold orientOk; omega)]; first | (rw [if_pos (by omega)]; done) | rw [if_neg (by omega)]))
theorem c_sorientSize (w h o : Int) (W : World) : SYields Tryz.prog 177 #[.int .i64 w, .int .i64 h, .int .i64 o] (.tuple #[.int .i64 (orientSize w h o).1, .int .i64 (orientSize w h o).2]) W := by
  (first | apply SYields.mk | apply SYieldsF.mk | skip); refine s_enter Tryz.func177 rfl Tryz.ntmps177 rfl ?_
  repeat' (first | exact rfl | (apply kO; (first | exact ov_pure rfl | (apply kOBin; (first | exact aBin)) | (apply kOCall; (first | (apply kCallF; (first | exact (ov_call rfl (fun w hw => c_l01In _ _ _ w)))) | (apply kCallB; (first | exact aBlt | exact aLenR)))) | (apply kOLoad; (first | exact aLdF | exact aLdR)) | exact ov_fieldAddr rfl | (apply kOIdx; (first | exact aIdx)) | exact aRest | exact aNew | exact (ov_field1 (ft := 31) rfl rfl rfl rfl))) | (refine kN ?_; (first | (refine kStore ?_; (first | refine s_store1 _ rfl rfl gpA rfl (by rfl) ?_ | refine s_storeS _ rfl rfl gpA rfl rfl (by rfl) ?_ | refine s_storeS _ rfl rfl gpA rfl (ones_img oiA) (by rfl) ?_)) | refine s_boxS rfl rfl (fun b hb => ?_) | refine s_allocS rfl (fun b hb => ?_) | refine s_box1 rfl rfl rfl (fun b hb => ?_) | refine s_alloc1 rfl rfl (fun b hb => ?_) | refine s_buildSlice0 rfl (fun b hb => ?_) | refine s_buildSlice rfl rfl rfl rfl rfl (fun b hb => ?_) | apply s_step)) | (refine kG ?_; (first | refine s_gyes rfl rfl rfl ?_ | refine s_gno rfl rfl rfl rfl rfl ?_ | ((first | refine s_split_d rfl rfl (fun h => ?_) (fun h => ?_) | refine s_split_n rfl rfl (fun h => ?_) (fun h => ?_)) <;> (try (first | contradiction | (exfalso; omega)))) | refine s_split_nb rfl rfl (fun h => ?_) (fun h => ?_) | refine s_split rfl rfl (fun h => ?_) (fun h => ?_))) | refine l_then ?_ | (refine kC ?_; (first | refine c_seq ?_ | refine c_regionN rfl ?_ | refine c_ret ?_ | (refine kCond ?_; (first | refine c_cond_t rfl ?_ | refine c_cond_f rfl ?_ | ((first | refine c_cond_d rfl (fun h => ?_) (fun h => ?_) | refine c_cond_n rfl (fun h => ?_) (fun h => ?_)) <;> (try (first | contradiction | (exfalso; omega)))) | refine c_cond_nb rfl (fun h => ?_) (fun h => ?_) | refine c_cond rfl (fun h => ?_) (fun h => ?_))) | refine c_block ?_ | refine c_skip ?_ | refine c_exit ?_ | refine c_regionQN rfl rfl (by decide +kernel) ?_)) | apply s_stepQ | (refine kQG ?_; (first | refine s_gyesQ rfl rfl rfl ?_ | refine s_gnoQ rfl rfl rfl rfl rfl ?_ | ((first | refine s_splitQ_d rfl rfl (fun h => ?_) (fun h => ?_) | refine s_splitQ_n rfl rfl (fun h => ?_) (fun h => ?_)) <;> (try (first | contradiction | (exfalso; omega)))) | refine s_splitQ_nb rfl rfl (fun h => ?_) (fun h => ?_) | refine s_splitQ rfl rfl (fun h => ?_) (fun h => ?_))) | refine lQ_then ?_ | refine lQ_ends ?_ | (refine kE ?_; (first | refine e_then_r ?_ | refine e_block_r ?_ | refine e_then_n ?_ | refine e_then_x ?_ | refine e_block_n ?_ | refine e_block_x ?_ | refine e_block_y rfl ?_)) | refine l_ends ?_)
  all_goals refine s_leave2 rfl rfl rfl (fun w hw => ⟨?_, hw.below⟩)
  all_goals (unfold orientSize; first | (rw [if_neg (by unfold orientOk; omega)]; done) | (rw [if_pos (by unfold orientOk; omega)]; first | (rw [if_pos (by omega)]; done) | rw [if_neg (by omega)]))
theorem c_surfaceSize (s : DSurf) (d : Value) (w : World) : SYields Tryz.prog 200 #[vSurf s d] (.tuple #[.int .i64 (surfSize s).1, .int .i64 (surfSize s).2]) w := by
  (first | apply SYields.mk | apply SYieldsF.mk | skip); refine s_enter Tryz.func200 rfl Tryz.ntmps200 rfl ?_
  repeat' (first | exact rfl | (apply kO; (first | exact ov_pure rfl | (apply kOBin; (first | exact aBin)) | (apply kOCall; (first | (apply kCallF; (first | exact (ov_call rfl (fun w hw => c_iorientSize _ _ _ w)))) | (apply kCallB; (first | exact aBlt | exact aLenR)))) | (apply kOLoad; (first | exact aLdF | exact aLdR)) | exact ov_fieldAddr rfl | (apply kOIdx; (first | exact aIdx)) | exact aRest | exact aNew | exact (ov_field1 (ft := 31) rfl rfl rfl rfl))) | (refine kN ?_; (first | (refine kStore ?_; (first | refine s_store1 _ rfl rfl gpA rfl (by rfl) ?_ | refine s_storeS _ rfl rfl gpA rfl rfl (by rfl) ?_ | refine s_storeS _ rfl rfl gpA rfl (ones_img oiA) (by rfl) ?_)) | refine s_boxS rfl rfl (fun b hb => ?_) | refine s_allocS rfl (fun b hb => ?_) | refine s_box1 rfl rfl rfl (fun b hb => ?_) | refine s_alloc1 rfl rfl (fun b hb => ?_) | refine s_buildSlice0 rfl (fun b hb => ?_) | refine s_buildSlice rfl rfl rfl rfl rfl (fun b hb => ?_) | apply s_step)) | (refine kG ?_; (first | refine s_gyes rfl rfl rfl ?_ | refine s_gno rfl rfl rfl rfl rfl ?_ | ((first | refine s_split_d rfl rfl (fun h => ?_) (fun h => ?_) | refine s_split_n rfl rfl (fun h => ?_) (fun h => ?_)) <;> (try (first | contradiction | (exfalso; omega)))) | refine s_split_nb rfl rfl (fun h => ?_) (fun h => ?_) | refine s_split rfl rfl (fun h => ?_) (fun h => ?_))) | refine l_then ?_ | (refine kC ?_; (first | refine c_seq ?_ | refine c_regionN rfl ?_ | refine c_ret ?_ | (refine kCond ?_; (first | refine c_cond_t rfl ?_ | refine c_cond_f rfl ?_ | ((first | refine c_cond_d rfl (fun h => ?_) (fun h => ?_) | refine c_cond_n rfl (fun h => ?_) (fun h => ?_)) <;> (try (first | contradiction | (exfalso; omega)))) | refine c_cond_nb rfl (fun h => ?_) (fun h => ?_) | refine c_cond rfl (fun h => ?_) (fun h => ?_))) | refine c_block ?_ | refine c_skip ?_ | refine c_exit ?_ | refine c_regionQN rfl rfl (by decide +kernel) ?_)) | apply s_stepQ | (refine kQG ?_; (first | refine s_gyesQ rfl rfl rfl ?_ | refine s_gnoQ rfl rfl rfl rfl rfl ?_ | ((first | refine s_splitQ_d rfl rfl (fun h => ?_) (fun h => ?_) | refine s_splitQ_n rfl rfl (fun h => ?_) (fun h => ?_)) <;> (try (first | contradiction | (exfalso; omega)))) | refine s_splitQ_nb rfl rfl (fun h => ?_) (fun h => ?_) | refine s_splitQ rfl rfl (fun h => ?_) (fun h => ?_))) | refine lQ_then ?_ | refine lQ_ends ?_ | (refine kE ?_; (first | refine e_then_r ?_ | refine e_block_r ?_ | refine e_then_n ?_ | refine e_then_x ?_ | refine e_block_n ?_ | refine e_block_x ?_ | refine e_block_y rfl ?_)) | refine l_ends ?_)
  all_goals refine s_leave2 rfl rfl rfl (fun w hw => ⟨?_, hw.below⟩)
  all_goals (unfold surfSize; first | (rw [if_pos (by assumption)]; done) | rw [if_neg (by assumption)])
theorem c_isurfaceRect (s : DSurf) (d : Value) (w : World) (hd : RInts w d s.buf.data) : SYields Tryz.prog 148 #[vSurf s d] (vRect (surfRect s)) w := by
  (first | apply SYields.mk | apply SYieldsF.mk | skip); refine s_enter Tryz.func148 rfl Tryz.ntmps148 rfl ?_
  repeat' (first | exact rfl | (apply kO; (first | exact ov_pure rfl | (apply kOBin; (first | exact aBin)) | (apply kOCall; (first | (apply kCallF; (first | exact (ov_call rfl (fun w hw => c_isurfaceOk s _ w (riA hw))) | exact (ov_call rfl (fun w hw => c_surfaceSize s _ w)))) | (apply kCallB; (first | exact aBlt | exact aLenR)))) | (apply kOLoad; (first | exact aLdF | exact aLdR)) | exact ov_fieldAddr rfl | (apply kOIdx; (first | exact aIdx)) | exact aRest | exact aNew | exact (ov_field1 (ft := 31) rfl rfl rfl rfl))) | (refine kN ?_; (first | (refine kStore ?_; (first | refine s_store1 _ rfl rfl gpA rfl (by rfl) ?_ | refine s_storeS _ rfl rfl gpA rfl rfl (by rfl) ?_ | refine s_storeS _ rfl rfl gpA rfl (ones_img oiA) (by rfl) ?_)) | refine s_boxS rfl rfl (fun b hb => ?_) | refine s_allocS rfl (fun b hb => ?_) | refine s_box1 rfl rfl rfl (fun b hb => ?_) | refine s_alloc1 rfl rfl (fun b hb => ?_) | refine s_buildSlice0 rfl (fun b hb => ?_) | refine s_buildSlice rfl rfl rfl rfl rfl (fun b hb => ?_) | apply s_step)) | (refine kG ?_; (first | refine s_gyes rfl rfl rfl ?_ | refine s_gno rfl rfl rfl rfl rfl ?_ | ((first | refine s_split_d rfl rfl (fun h => ?_) (fun h => ?_) | refine s_split_n rfl rfl (fun h => ?_) (fun h => ?_)) <;> (try (first | contradiction | (exfalso; omega)))) | refine s_split_nb rfl rfl (fun h => ?_) (fun h => ?_) | refine s_split rfl rfl (fun h => ?_) (fun h => ?_))) | refine l_then ?_ | (refine kC ?_; (first | refine c_seq ?_ | refine c_regionN rfl ?_ | refine c_ret ?_ | (refine kCond ?_; (first | refine c_cond_t rfl ?_ | refine c_cond_f rfl ?_ | ((first | refine c_cond_d rfl (fun h => ?_) (fun h => ?_) | refine c_cond_n rfl (fun h => ?_) (fun h => ?_)) <;> (try (first | contradiction | (exfalso; omega)))) | refine c_cond_nb rfl (fun h => ?_) (fun h => ?_) | refine c_cond rfl (fun h => ?_) (fun h => ?_))) | refine c_block ?_ | refine c_skip ?_ | refine c_exit ?_ | refine c_regionQN rfl rfl (by decide +kernel) ?_)) | apply s_stepQ | (refine kQG ?_; (first | refine s_gyesQ rfl rfl rfl ?_ | refine s_gnoQ rfl rfl rfl rfl rfl ?_ | ((first | refine s_splitQ_d rfl rfl (fun h => ?_) (fun h => ?_) | refine s_splitQ_n rfl rfl (fun h => ?_) (fun h => ?_)) <;> (try (first | contradiction | (exfalso; omega)))) | refine s_splitQ_nb rfl rfl (fun h => ?_) (fun h => ?_) | refine s_splitQ rfl rfl (fun h => ?_) (fun h => ?_))) | refine lQ_then ?_ | refine lQ_ends ?_ | (refine kE ?_; (first | refine e_then_r ?_ | refine e_block_r ?_ | refine e_then_n ?_ | refine e_then_x ?_ | refine e_block_n ?_ | refine e_block_x ?_ | refine e_block_y rfl ?_)) | refine l_ends ?_)
  all_goals (refine kE ?_; refine s_leaveSF rfl rfl rfl fwA (fun w hw => ?_))
  all_goals refine ⟨ret_rectv ?_, hw.below⟩
  all_goals (unfold surfRect; first | (rw [if_pos ⟨by assumption, by assumption⟩]; done) | (rw [if_neg (by intro hh; obtain ⟨h1, h2⟩ := hh; first | contradiction | simp_all)]; rfl))
theorem c_ssurfaceRect (s : DSurf) (d : Value) (w : World) (hd : RInts w d s.buf.data) : SYields Tryz.prog 99 #[vSurf s d] (vRect (surfRect s)) w := by
  by_cases hok : s.ok
  · have hsz := hok.2.2.2.1
    unfold DSurf.sized at hsz
    (first | apply SYields.mk | apply SYieldsF.mk | skip); refine s_enter Tryz.func99 rfl Tryz.ntmps99 rfl ?_
    repeat' (first | exact rfl | (apply kO; (first | exact ov_pure rfl | (apply kOBin; (first | exact aBin)) | (apply kOCall; (first | (apply kCallF; (first | exact (ov_call rfl (fun w hw => c_ssurfaceOk s _ w (riA hw))) | exact (ov_call rfl (fun w hw => c_sorientSize _ _ _ w)))) | (apply kCallB; (first | exact aBlt | exact aLenR)))) | (apply kOLoad; (first | exact aLdF | exact aLdR)) | exact ov_fieldAddr rfl | (apply kOIdx; (first | exact aIdx)) | exact aRest | exact aNew | exact (ov_field1 (ft := 31) rfl rfl rfl rfl))) | (refine kN ?_; (first | (refine kStore ?_; (first | refine s_store1 _ rfl rfl gpA rfl (by rfl) ?_ | refine s_storeS _ rfl rfl gpA rfl rfl (by rfl) ?_ | refine s_storeS _ rfl rfl gpA rfl (ones_img oiA) (by rfl) ?_)) | refine s_boxS rfl rfl (fun b hb => ?_) | refine s_allocS rfl (fun b hb => ?_) | refine s_box1 rfl rfl rfl (fun b hb => ?_) | refine s_alloc1 rfl rfl (fun b hb => ?_) | refine s_buildSlice0 rfl (fun b hb => ?_) | refine s_buildSlice rfl rfl rfl rfl rfl (fun b hb => ?_) | apply s_step)) | (refine kG ?_; (first | refine s_gyes rfl rfl rfl ?_ | refine s_gno rfl rfl rfl rfl rfl ?_ | ((first | refine s_split_d rfl rfl (fun h => ?_) (fun h => ?_) | refine s_split_n rfl rfl (fun h => ?_) (fun h => ?_)) <;> (try (first | contradiction | (exfalso; omega)))) | refine s_split_nb rfl rfl (fun h => ?_) (fun h => ?_) | refine s_split rfl rfl (fun h => ?_) (fun h => ?_))) | refine l_then ?_ | (refine kC ?_; (first | refine c_seq ?_ | refine c_regionN rfl ?_ | refine c_ret ?_ | (refine kCond ?_; (first | refine c_cond_t rfl ?_ | refine c_cond_f rfl ?_ | ((first | refine c_cond_d rfl (fun h => ?_) (fun h => ?_) | refine c_cond_n rfl (fun h => ?_) (fun h => ?_)) <;> (try (first | contradiction | (exfalso; omega)))) | refine c_cond_nb rfl (fun h => ?_) (fun h => ?_) | refine c_cond rfl (fun h => ?_) (fun h => ?_))) | refine c_block ?_ | refine c_skip ?_ | refine c_exit ?_ | refine c_regionQN rfl rfl (by decide +kernel) ?_)) | apply s_stepQ | (refine kQG ?_; (first | refine s_gyesQ rfl rfl rfl ?_ | refine s_gnoQ rfl rfl rfl rfl rfl ?_ | ((first | refine s_splitQ_d rfl rfl (fun h => ?_) (fun h => ?_) | refine s_splitQ_n rfl rfl (fun h => ?_) (fun h => ?_)) <;> (try (first | contradiction | (exfalso; omega)))) | refine s_splitQ_nb rfl rfl (fun h => ?_) (fun h => ?_) | refine s_splitQ rfl rfl (fun h => ?_) (fun h => ?_))) | refine lQ_then ?_ | refine lQ_ends ?_ | (refine kE ?_; (first | refine e_then_r ?_ | refine e_block_r ?_ | refine e_then_n ?_ | refine e_then_x ?_ | refine e_block_n ?_ | refine e_block_x ?_ | refine e_block_y rfl ?_)) | refine l_ends ?_)
    all_goals (refine kE ?_; refine s_leaveSF rfl rfl rfl fwA (fun w hw => ?_))
    all_goals refine ⟨ret_rectv ?_, hw.below⟩
    all_goals (unfold surfRect; first | (rw [if_pos ⟨hok, by assumption⟩]; unfold surfSize; first | (rw [if_pos (by omega)]; done) | (rw [if_neg (by omega)]; done)) | (rw [if_neg (by intro hh; obtain ⟨h1, h2⟩ := hh; simp_all)]; rfl))
  · (first | apply SYields.mk | apply SYieldsF.mk | skip); refine s_enter Tryz.func99 rfl Tryz.ntmps99 rfl ?_
    repeat' (first | exact rfl | (apply kO; (first | exact ov_pure rfl | (apply kOBin; (first | exact aBin)) | (apply kOCall; (first | (apply kCallF; (first | exact (ov_call rfl (fun w hw => c_ssurfaceOk s _ w (riA hw))))) | (apply kCallB; (first | exact aBlt | exact aLenR)))) | (apply kOLoad; (first | exact aLdF | exact aLdR)) | exact ov_fieldAddr rfl | (apply kOIdx; (first | exact aIdx)) | exact aRest | exact aNew | exact (ov_field1 (ft := 31) rfl rfl rfl rfl))) | (refine kN ?_; (first | (refine kStore ?_; (first | refine s_store1 _ rfl rfl gpA rfl (by rfl) ?_ | refine s_storeS _ rfl rfl gpA rfl rfl (by rfl) ?_ | refine s_storeS _ rfl rfl gpA rfl (ones_img oiA) (by rfl) ?_)) | refine s_boxS rfl rfl (fun b hb => ?_) | refine s_allocS rfl (fun b hb => ?_) | refine s_box1 rfl rfl rfl (fun b hb => ?_) | refine s_alloc1 rfl rfl (fun b hb => ?_) | refine s_buildSlice0 rfl (fun b hb => ?_) | refine s_buildSlice rfl rfl rfl rfl rfl (fun b hb => ?_) | apply s_step)) | (refine kG ?_; (first | refine s_gyes rfl rfl rfl ?_ | refine s_gno rfl rfl rfl rfl rfl ?_ | ((first | refine s_split_d rfl rfl (fun h => ?_) (fun h => ?_) | refine s_split_n rfl rfl (fun h => ?_) (fun h => ?_)) <;> (try (first | contradiction | (exfalso; omega)))) | refine s_split_nb rfl rfl (fun h => ?_) (fun h => ?_) | refine s_split rfl rfl (fun h => ?_) (fun h => ?_))) | refine l_then ?_ | (refine kC ?_; (first | refine c_seq ?_ | refine c_regionN rfl ?_ | refine c_ret ?_ | (refine kCond ?_; (first | refine c_cond_t rfl ?_ | refine c_cond_f rfl ?_ | ((first | refine c_cond_d rfl (fun h => ?_) (fun h => ?_) | refine c_cond_n rfl (fun h => ?_) (fun h => ?_)) <;> (try (first | contradiction | (exfalso; omega)))) | refine c_cond_nb rfl (fun h => ?_) (fun h => ?_) | refine c_cond rfl (fun h => ?_) (fun h => ?_))) | refine c_block ?_ | refine c_skip ?_ | refine c_exit ?_ | refine c_regionQN rfl rfl (by decide +kernel) ?_)) | apply s_stepQ | (refine kQG ?_; (first | refine s_gyesQ rfl rfl rfl ?_ | refine s_gnoQ rfl rfl rfl rfl rfl ?_ | ((first | refine s_splitQ_d rfl rfl (fun h => ?_) (fun h => ?_) | refine s_splitQ_n rfl rfl (fun h => ?_) (fun h => ?_)) <;> (try (first | contradiction | (exfalso; omega)))) | refine s_splitQ_nb rfl rfl (fun h => ?_) (fun h => ?_) | refine s_splitQ rfl rfl (fun h => ?_) (fun h => ?_))) | refine lQ_then ?_ | refine lQ_ends ?_ | (refine kE ?_; (first | refine e_then_r ?_ | refine e_block_r ?_ | refine e_then_n ?_ | refine e_then_x ?_ | refine e_block_n ?_ | refine e_block_x ?_ | refine e_block_y rfl ?_)) | refine l_ends ?_)
    all_goals (refine kE ?_; refine s_leaveSF rfl rfl rfl fwA (fun w hw => ?_))
    all_goals refine ⟨ret_rectv ?_, hw.below⟩
    all_goals (unfold surfRect; rw [if_neg (fun hh => hok hh.1)]; rfl)
theorem DRect.eq {a b : DRect} (h1 : a.X = b.X) (h2 : a.Y = b.Y) (h3 : a.W = b.W) (h4 : a.H = b.H) : a = b := by cases a; cases b; simp_all
theorem c_eqRect (a c : DRect) (w : World) : SYields Tryz.prog 187 #[vRect a, vRect c] (.bool (decide (a = c))) w := by
  (first | apply SYields.mk | apply SYieldsF.mk | skip); refine s_enter Tryz.func187 rfl Tryz.ntmps187 rfl ?_
  repeat' (first | exact rfl | (apply kO; (first | exact ov_pure rfl | (apply kOBin; (first | exact aBin)) | (apply kOCall; (first | (apply kCallB; (first | exact aBlt | exact aLenR)))) | (apply kOLoad; (first | exact aLdF | exact aLdR)) | exact ov_fieldAddr rfl | (apply kOIdx; (first | exact aIdx)) | exact aRest | exact aNew | exact (ov_field1 (ft := 31) rfl rfl rfl rfl))) | (refine kN ?_; (first | (refine kStore ?_; (first | refine s_store1 _ rfl rfl gpA rfl (by rfl) ?_ | refine s_storeS _ rfl rfl gpA rfl rfl (by rfl) ?_ | refine s_storeS _ rfl rfl gpA rfl (ones_img oiA) (by rfl) ?_)) | refine s_boxS rfl rfl (fun b hb => ?_) | refine s_allocS rfl (fun b hb => ?_) | refine s_box1 rfl rfl rfl (fun b hb => ?_) | refine s_alloc1 rfl rfl (fun b hb => ?_) | refine s_buildSlice0 rfl (fun b hb => ?_) | refine s_buildSlice rfl rfl rfl rfl rfl (fun b hb => ?_) | apply s_step)) | (refine kG ?_; (first | refine s_gyes rfl rfl rfl ?_ | refine s_gno rfl rfl rfl rfl rfl ?_ | ((first | refine s_split_d rfl rfl (fun h => ?_) (fun h => ?_) | refine s_split_n rfl rfl (fun h => ?_) (fun h => ?_)) <;> (try (first | contradiction | (exfalso; omega)))) | refine s_split_nb rfl rfl (fun h => ?_) (fun h => ?_) | refine s_split rfl rfl (fun h => ?_) (fun h => ?_))) | refine l_then ?_ | (refine kC ?_; (first | refine c_seq ?_ | refine c_regionN rfl ?_ | refine c_ret ?_ | (refine kCond ?_; (first | refine c_cond_t rfl ?_ | refine c_cond_f rfl ?_ | ((first | refine c_cond_d rfl (fun h => ?_) (fun h => ?_) | refine c_cond_n rfl (fun h => ?_) (fun h => ?_)) <;> (try (first | contradiction | (exfalso; omega)))) | refine c_cond_nb rfl (fun h => ?_) (fun h => ?_) | refine c_cond rfl (fun h => ?_) (fun h => ?_))) | refine c_block ?_ | refine c_skip ?_ | refine c_exit ?_ | refine c_regionQN rfl rfl (by decide +kernel) ?_)) | apply s_stepQ | (refine kQG ?_; (first | refine s_gyesQ rfl rfl rfl ?_ | refine s_gnoQ rfl rfl rfl rfl rfl ?_ | ((first | refine s_splitQ_d rfl rfl (fun h => ?_) (fun h => ?_) | refine s_splitQ_n rfl rfl (fun h => ?_) (fun h => ?_)) <;> (try (first | contradiction | (exfalso; omega)))) | refine s_splitQ_nb rfl rfl (fun h => ?_) (fun h => ?_) | refine s_splitQ rfl rfl (fun h => ?_) (fun h => ?_))) | refine lQ_then ?_ | refine lQ_ends ?_ | (refine kE ?_; (first | refine e_then_r ?_ | refine e_block_r ?_ | refine e_then_n ?_ | refine e_then_x ?_ | refine e_block_n ?_ | refine e_block_x ?_ | refine e_block_y rfl ?_)) | refine l_ends ?_)
  all_goals refine s_leave1 rfl rfl (fun w hw => ⟨?_, hw.below⟩)
  all_goals first | exact ret_false (fun e => by subst e; contradiction) | exact ret_true (DRect.eq (by omega) (by omega) (by omega) (by omega))
end Go.Proofs.YtfmjeakcfmmkfaaGreat
/-
  The plain functions, continued: pictures as functions of the place; painting. No program in sight.
-/
set_option linter.unusedVariables false
namespace Sx

/-! ### a picture as a function -/
theorem mapTo_get (f : Int → Int → Int) (w : Int) {n q : Nat} (h : q < n) : (mapTo f w n).getD q 0 = f ((q : Int) % w) ((q : Int) / w) := by
  simp [mapTo, List.getD_eq_getElem?_getD, h]
theorem place_lt {w h x y : Int} (hx : 0 ≤ x ∧ x < w) (hy : 0 ≤ y ∧ y < h) : 0 ≤ y * w + x ∧ y * w + x < w * h ∧ (y * w + x).toNat < (w * h).toNat := by
  have h1 : 0 ≤ y * w := Int.mul_nonneg hy.1 (by omega)
  have h2 : (y + 1) * w ≤ h * w := Int.mul_le_mul_of_nonneg_right (by omega) (by omega)
  rw [Int.add_mul, Int.one_mul] at h2
  rw [Int.mul_comm h w] at h2
  omega
theorem mapTo_at (f : Int → Int → Int) {w h x y : Int} (hx : 0 ≤ x ∧ x < w) (hy : 0 ≤ y ∧ y < h) : (mapTo f w (w * h).toNat).getD (y * w + x).toNat 0 = f x y := by
  have h1 := place_lt hx hy
  have h2 := row_mod (w := w) hx hy.1
  rw [mapTo_get f w h1.2.2, Int.toNat_of_nonneg h1.1, h2.1, h2.2]
theorem mod_row {w : Int} {q : Nat} (hw : 1 ≤ w) : 0 ≤ (q : Int) % w ∧ (q : Int) % w < w ∧ 0 ≤ (q : Int) / w ∧ ((q : Int) / w) * w + (q : Int) % w = q := by
  have h1 := Int.emod_nonneg (q : Int) (b := w) (by omega)
  have h2 := Int.emod_lt_of_pos (q : Int) (b := w) (by omega)
  have h3 : 0 ≤ (q : Int) / w := Int.ediv_nonneg (by omega) (by omega)
  have h4 := Int.mul_ediv_add_emod (q : Int) w
  rw [Int.mul_comm] at h4
  exact ⟨h1, h2, h3, h4⟩
theorem div_lt {w h : Int} {q : Nat} (hw : 1 ≤ w) (hq : q < (w * h).toNat) : (q : Int) / w < h := by
  have h1 : (q : Int) < h * w := by rw [Int.mul_comm]; omega
  exact Int.ediv_lt_of_lt_mul (by omega) h1
theorem mapTo_congr {f g : Int → Int → Int} {w h : Int} (hw : 1 ≤ w) (e : ∀ x y, 0 ≤ x → x < w → 0 ≤ y → y < h → f x y = g x y) : mapTo f w (w * h).toNat = mapTo g w (w * h).toNat := by
  unfold mapTo
  apply List.map_congr_left
  intro q hq
  have := mod_row (w := w) (q := q) hw
  exact e _ _ this.1 this.2.1 this.2.2.1 (div_lt hw (List.mem_range.1 hq))
theorem list_eq_getD {l m : List Int} (hl : l.length = m.length) (h : ∀ i, i < l.length → l.getD i 0 = m.getD i 0) : l = m := by
  apply List.ext_getElem?
  intro i
  by_cases hi : i < l.length
  · have := h i hi
    simp only [List.getD_eq_getElem?_getD, List.getElem?_eq_getElem hi, List.getElem?_eq_getElem (show i < m.length by omega), Option.getD_some] at this
    rw [List.getElem?_eq_getElem hi, List.getElem?_eq_getElem (show i < m.length by omega), this]
  · rw [List.getElem?_eq_none (by omega), List.getElem?_eq_none (by omega)]
theorem mapTo_self {w h : Int} {l : List Int} (hw : 1 ≤ w) (hl : l.length = (w * h).toNat) : l = mapTo (fun x y => l.getD (y * w + x).toNat 0) w (w * h).toNat := by
  apply list_eq_getD (by rw [mapTo_length]; exact hl)
  intro q hq
  rw [mapTo_get _ _ (by omega)]
  rw [(mod_row hw).2.2.2]; simp
theorem mapTo_inj {f g : Int → Int → Int} {w h : Int} (hw : 1 ≤ w) (e : mapTo f w (w * h).toNat = mapTo g w (w * h).toNat) : ∀ x y, 0 ≤ x → x < w → 0 ≤ y → y < h → f x y = g x y := fun x y h1 h2 h3 h4 => by
  rw [← mapTo_at f (w := w) (h := h) ⟨h1, h2⟩ ⟨h3, h4⟩, e, mapTo_at g ⟨h1, h2⟩ ⟨h3, h4⟩]
/-- one dot is set -/
theorem mapTo_set (f : Int → Int → Int) {w h x y v : Int} (hx : 0 ≤ x ∧ x < w) (hy : 0 ≤ y ∧ y < h) :
    (mapTo f w (w * h).toNat).set (y * w + x).toNat v = mapTo (fun a b => if a = x ∧ b = y then v else f a b) w (w * h).toNat := by
  apply list_eq_getD (by simp [mapTo_length])
  intro q hq
  rw [List.length_set, mapTo_length] at hq
  have h1 := place_lt hx hy
  have h2 := row_mod (w := w) hx hy.1
  have h3 := mod_row (w := w) (q := q) (by omega)
  rw [mapTo_get _ _ hq, List.getD_eq_getElem?_getD, List.getElem?_set]
  by_cases e : (y * w + x).toNat = q
  · rw [if_pos e, if_pos (by rw [mapTo_length]; omega)]
    have e' : (q : Int) = y * w + x := by omega
    rw [e', h2.1, h2.2, if_pos ⟨rfl, rfl⟩]; rfl
  · rw [if_neg e, if_neg (fun hh => e (by
      have h4 := h3.2.2.2
      rw [hh.1, hh.2] at h4; omega))]
    rw [← List.getD_eq_getElem?_getD, mapTo_get _ _ hq]
/-- a valid image's pixel -/
def DImg.at (i : DImg) (x y : Int) : Int := i.data.getD (y * i.W + x).toNat 0
theorem DImg.ok.lenN {i : DImg} (h : i.ok) : i.data.length = (i.W * i.H).toNat := by have := h.2.2.1; omega
theorem DImg.ok.self {i : DImg} (h : i.ok) : i.data = mapTo i.at i.W (i.W * i.H).toNat := mapTo_self h.1.1 h.lenN
theorem DImg.ok.at_pix {i : DImg} (h : i.ok) (x y : Int) : pixP (i.at x y) := h.pix _
theorem DImg.ext' {i j : DImg} (hi : i.ok) (hj : j.ok) (h1 : i.W = j.W) (h2 : i.H = j.H) (h3 : ∀ x y, 0 ≤ x → x < i.W → 0 ≤ y → y < i.H → i.at x y = j.at x y) : i = j := by
  refine DImg.eq h1 h2 ?_
  rw [hi.self, hj.self, ← h1, ← h2]
  exact mapTo_congr hi.1.1 h3
/-- an image that a function gives -/
def fimg (f : Int → Int → Int) (w h : Int) : DImg := ⟨w, h, mapTo f w (w * h).toNat⟩
theorem fimg_ok {f : Int → Int → Int} {w h : Int} (hw : 1 ≤ w ∧ w ≤ 16) (hh : 1 ≤ h ∧ h ≤ 16) (hf : ∀ x y, 0 ≤ x → x < w → 0 ≤ y → y < h → pixP (f x y)) : (fimg f w h).ok := by
  have hs := side_mul (w := w) (h := h) ⟨hw.1, hw.2, hh.1, hh.2⟩
  refine ⟨hw, hh, by simp only [fimg, mapTo_length]; omega, fun q hq => ?_⟩
  simp only [fimg, mapTo_length] at hq ⊢
  rw [mapTo_get _ _ hq]
  have := mod_row (w := w) (q := q) hw.1
  exact hf _ _ this.1 this.2.1 this.2.2.1 (div_lt hw.1 hq)
theorem fimg_at (f : Int → Int → Int) {w h x y : Int} (hx : 0 ≤ x ∧ x < w) (hy : 0 ≤ y ∧ y < h) : (fimg f w h).at x y = f x y := mapTo_at f hx hy
theorem fimg_congr {f g : Int → Int → Int} {w h : Int} (hw : 1 ≤ w) (e : ∀ x y, 0 ≤ x → x < w → 0 ≤ y → y < h → f x y = g x y) : fimg f w h = fimg g w h := by
  unfold fimg; rw [mapTo_congr hw e]
theorem DImg.ok.fimg {i : DImg} (h : i.ok) : i = Sx.fimg i.at i.W i.H := DImg.eq rfl rfl h.self

/-! ### chapter 11: painting -/
/-- the rectangle of a valid surface, visible or not -/
def rawRect (s : DSurf) : DRect := ⟨s.X, s.Y, (surfSize s).1, (surfSize s).2⟩
theorem surfSize_pic {s : DSurf} (h : s.ok) : (pictureOf s).W = (surfSize s).1 ∧ (pictureOf s).H = (surfSize s).2 := by
  have hb := h.2.2.2.2.2.2
  have ho := h.2.2.2.2.2.1
  have hsz := h.2.2.2.1
  unfold DSurf.sized at hsz
  unfold pictureOf rawPicture surfSize
  rw [if_pos h]
  unfold fadedImg
  by_cases e : s.W ≠ 0
  · rw [if_pos e, if_pos e]
    unfold scaled
    rw [if_pos ⟨oriented_ok hb ho, by omega, by omega⟩]; exact ⟨rfl, rfl⟩
  · rw [if_neg e, if_neg e]
    unfold oriented
    rw [if_pos ⟨hb, ho⟩]; exact ⟨rfl, rfl⟩
theorem surfSize_bd {s : DSurf} (h : s.ok) : (1 ≤ (surfSize s).1 ∧ (surfSize s).1 ≤ 16) ∧ (1 ≤ (surfSize s).2 ∧ (surfSize s).2 ≤ 16) := by
  have h1 := pictureOf_ok h
  have h2 := surfSize_pic h
  rw [← h2.1, ← h2.2]; exact ⟨h1.1, h1.2.1⟩
theorem rawRect_ok {s : DSurf} (h : s.ok) : (rawRect s).ok := by
  have h1 := surfSize_bd h
  have h2 := h.2.1
  have h3 := h.2.2.1
  unfold rawRect DRect.ok; dsimp only; omega
theorem surfRect_vis {s : DSurf} (h : s.ok) (hv : s.Visible = true) : surfRect s = rawRect s := by unfold surfRect; rw [if_pos ⟨h, hv⟩]; rfl
theorem surfRect_hid {s : DSurf} (hv : ¬ s.Visible = true) : surfRect s = DRect.zero := by unfold surfRect; rw [if_neg (fun e => hv e.2)]
theorem surfRect_ok (s : DSurf) : (surfRect s).ok := by
  by_cases h : s.ok ∧ s.Visible = true
  · rw [surfRect_vis h.1 h.2]; exact rawRect_ok h.1
  · unfold surfRect; rw [if_neg h]; unfold DRect.zero DRect.ok; dsimp only; omega
/-- the pixel that a surface has at a point -/
def pixOf (s : DSurf) (x y : Int) : Int := (pictureOf s).at (x - s.X) (y - s.Y)
/-- a surface over what is below it -/
def layer (s : DSurf) (x y b : Int) : Int := if (surfRect s).has x y then over (pixOf s x y) b else b
theorem layer_pix {s : DSurf} {x y b : Int} (h : s.ok) (hb : pixP b) : pixP (layer s x y b) := by
  unfold layer
  split
  · have := over_bd ((pictureOf_ok h).at_pix (x - s.X) (y - s.Y)) hb
    show pixP (over ((pictureOf s).at (x - s.X) (y - s.Y)) b)
    unfold pixP; omega
  · exact hb
def layers (l : List DSurf) (x y b : Int) : Int := l.foldl (fun q s => layer s x y q) b
theorem layers_append (k l : List DSurf) (x y b : Int) : layers (k ++ l) x y b = layers l x y (layers k x y b) := by simp [layers]
theorem layers_cons (s : DSurf) (l : List DSurf) (x y b : Int) : layers (s :: l) x y b = layers l x y (layer s x y b) := rfl
theorem layers_pix : ∀ {l : List DSurf} {x y b : Int}, (∀ s ∈ l, s.ok) → pixP b → pixP (layers l x y b)
  | [], _, _, _, _, h => h
  | s :: l, x, y, b, hl, h => by
    rw [layers_cons]
    exact layers_pix (fun q hq => hl q (List.mem_cons_of_mem _ hq)) (layer_pix (hl s (List.mem_cons_self ..)) h)
theorem surfsOk_mem {l : List DSurf} (h : surfsOk l l.length) : ∀ s ∈ l, s.ok := fun s hs => by
  obtain ⟨i, hi, e⟩ := List.mem_iff_getElem.1 hs
  have := (h i hi).1
  rw [List.getD_eq_getElem?_getD, List.getElem?_eq_getElem hi, Option.getD_some, e] at this
  exact this
def paintF (s : DScene) (x y : Int) : Int := layers s.ss x y s.Back
def painted (s : DScene) : DImg := fimg (paintF s) s.W s.H
def paint (s : DScene) : DImg := if s.ok then painted s else DImg.zero
def paintAt (s : DScene) (x y : Int) : Int := if s.ok ∧ (0 ≤ x ∧ x ≤ s.W - 1) ∧ (0 ≤ y ∧ y ≤ s.H - 1) then paintF s x y else -1
theorem DScene.ok.back {s : DScene} (h : s.ok) : pixP s.Back := h.2.2.1.1
theorem DScene.ok.surf {s : DScene} (h : s.ok) {q : DSurf} (hq : q ∈ s.ss) : q.ok := surfsOk_mem h.2.2.2.2 q hq
theorem paintF_pix {s : DScene} (h : s.ok) (x y : Int) : pixP (paintF s x y) := layers_pix (fun q hq => h.surf hq) h.back
theorem painted_ok {s : DScene} (h : s.ok) : (painted s).ok := fimg_ok h.1 h.2.1 (fun x y _ _ _ _ => paintF_pix h x y)
/-- the first n surfaces -/
def paintTo (s : DScene) (n : Nat) (x y : Int) : Int := layers (s.ss.take n) x y s.Back
theorem paintTo_zero (s : DScene) (x y : Int) : paintTo s 0 x y = s.Back := rfl
theorem paintTo_succ {s : DScene} {n : Nat} (h : n < s.ss.length) (x y : Int) : paintTo s (n + 1) x y = layer (s.ss.getD n default) x y (paintTo s n x y) := by
  unfold paintTo
  rw [List.take_add_one, List.getElem?_eq_getElem h, Option.toList_some, layers_append]
  simp [layers, List.getD_eq_getElem?_getD, List.getElem?_eq_getElem h]
theorem paintTo_all (s : DScene) (x y : Int) : paintTo s s.ss.length x y = paintF s x y := by unfold paintTo paintF; rw [List.take_length]
theorem paintTo_pix {s : DScene} (h : s.ok) (n : Nat) (x y : Int) : pixP (paintTo s n x y) := layers_pix (fun q hq => h.surf (List.mem_of_mem_take hq)) h.back

/-! one surface over an image, within some points -/
/-- what paintOne has made of the pixel at (x, y) after k pixels of the picture -/
def hitTo (s : DSurf) (k : Nat) (x y : Int) : Prop := (rawRect s).has x y ∧ (y - s.Y) * (surfSize s).1 + (x - s.X) < k
instance (s : DSurf) (k : Nat) (x y : Int) : Decidable (hitTo s k x y) := by unfold hitTo; infer_instance
def inG (g : Grid) (x y : Int) : Bool := g y.toNat x.toNat
def oneTo (s : DSurf) (g : Grid) (old : Int → Int → Int) (k : Nat) (x y : Int) : Int := if hitTo s k x y ∧ inG g x y = true then over (pixOf s x y) (old x y) else old x y
/-- the place of the k-th pixel on the screen -/
def kx (s : DSurf) (k : Nat) : Int := s.X + (k : Int) % (surfSize s).1
def ky (s : DSurf) (k : Nat) : Int := s.Y + (k : Int) / (surfSize s).1
theorem hitTo_zero {s : DSurf} (h : s.ok) (x y : Int) : ¬ hitTo s 0 x y := by
  rintro ⟨⟨_, h1⟩, h2⟩
  have hs := surfSize_bd h
  unfold rawRect at h1; dsimp only at h1
  have : 0 ≤ (y - s.Y) * (surfSize s).1 := Int.mul_nonneg (by omega) (by omega)
  omega
theorem hitTo_succ {s : DSurf} (h : s.ok) {k : Nat} (hk : k < ((surfSize s).1 * (surfSize s).2).toNat) (x y : Int) : hitTo s (k + 1) x y ↔ hitTo s k x y ∨ (x = kx s k ∧ y = ky s k) := by
  have hs := surfSize_bd h
  have hm := mod_row (w := (surfSize s).1) (q := k) (by omega)
  have hd := div_lt (w := (surfSize s).1) (h := (surfSize s).2) (q := k) (by omega) hk
  constructor
  · rintro ⟨h1, h2⟩
    by_cases e : (y - s.Y) * (surfSize s).1 + (x - s.X) < k
    · exact .inl ⟨h1, e⟩
    · refine .inr ?_
      have e2 : (y - s.Y) * (surfSize s).1 + (x - s.X) = k := by push_cast at h2; omega
      have h3 := h1.2
      unfold rawRect at h3; dsimp only at h3
      have := row_mod (w := (surfSize s).1) (x := x - s.X) (y := y - s.Y) (by omega) (by omega)
      rw [e2] at this
      unfold kx ky
      omega
  · rintro (⟨h1, h2⟩ | ⟨rfl, rfl⟩)
    · exact ⟨h1, by push_cast; omega⟩
    · refine ⟨⟨rawRect_ok h, ?_⟩, ?_⟩
      · unfold rawRect kx ky; dsimp only; omega
      · unfold kx ky
        rw [show s.Y + (k : Int) / (surfSize s).1 - s.Y = (k : Int) / (surfSize s).1 by omega, show s.X + (k : Int) % (surfSize s).1 - s.X = (k : Int) % (surfSize s).1 by omega]
        push_cast; omega
theorem hitTo_not {s : DSurf} (h : s.ok) {k : Nat} : ¬ hitTo s k (kx s k) (ky s k) := by
  have hs := surfSize_bd h
  have hm := mod_row (w := (surfSize s).1) (q := k) (by omega)
  rintro ⟨_, h2⟩
  unfold kx ky at h2
  rw [show s.Y + (k : Int) / (surfSize s).1 - s.Y = (k : Int) / (surfSize s).1 by omega, show s.X + (k : Int) % (surfSize s).1 - s.X = (k : Int) % (surfSize s).1 by omega] at h2
  omega
theorem hitTo_all {s : DSurf} (h : s.ok) (x y : Int) : hitTo s ((surfSize s).1 * (surfSize s).2).toNat x y ↔ (rawRect s).has x y := by
  have hs := surfSize_bd h
  have hp := side_mul (w := (surfSize s).1) (h := (surfSize s).2) ⟨hs.1.1, hs.1.2, hs.2.1, hs.2.2⟩
  refine ⟨fun hh => hh.1, fun hh => ⟨hh, ?_⟩⟩
  have h3 := hh.2
  unfold rawRect at h3; dsimp only at h3
  have := (place_lt (w := (surfSize s).1) (h := (surfSize s).2) (x := x - s.X) (y := y - s.Y) (by omega) (by omega)).2.1
  omega
theorem oneTo_zero {s : DSurf} (h : s.ok) (g : Grid) (old : Int → Int → Int) (x y : Int) : oneTo s g old 0 x y = old x y := by
  unfold oneTo; rw [if_neg (fun e => hitTo_zero h x y e.1)]
theorem pixOf_k {s : DSurf} (h : s.ok) {k : Nat} (hk : k < ((surfSize s).1 * (surfSize s).2).toNat) : pixOf s (kx s k) (ky s k) = (pictureOf s).data.getD k 0 := by
  have hs := surfSize_bd h
  have hm := mod_row (w := (surfSize s).1) (q := k) (by omega)
  unfold pixOf DImg.at kx ky
  rw [(surfSize_pic h).1]
  rw [show s.Y + (k : Int) / (surfSize s).1 - s.Y = (k : Int) / (surfSize s).1 by omega, show s.X + (k : Int) % (surfSize s).1 - s.X = (k : Int) % (surfSize s).1 by omega, hm.2.2.2]
  simp
theorem oneTo_hit {s : DSurf} (h : s.ok) (g : Grid) (old : Int → Int → Int) {k : Nat} (hk : k < ((surfSize s).1 * (surfSize s).2).toNat) (hg : inG g (kx s k) (ky s k) = true) (x y : Int) :
    oneTo s g old (k + 1) x y = if x = kx s k ∧ y = ky s k then over ((pictureOf s).data.getD k 0) (oneTo s g old k (kx s k) (ky s k)) else oneTo s g old k x y := by
  unfold oneTo
  by_cases e : x = kx s k ∧ y = ky s k
  · rw [if_pos e]
    obtain ⟨rfl, rfl⟩ := e
    rw [if_pos ⟨(hitTo_succ h hk _ _).2 (.inr ⟨rfl, rfl⟩), hg⟩, if_neg (fun hh => hitTo_not h hh.1), pixOf_k h hk]
  · rw [if_neg e]
    have : hitTo s (k + 1) x y ↔ hitTo s k x y := by rw [hitTo_succ h hk]; exact ⟨fun hh => hh.resolve_right e, .inl⟩
    by_cases e2 : hitTo s k x y ∧ inG g x y = true
    · rw [if_pos e2, if_pos ⟨this.2 e2.1, e2.2⟩]
    · rw [if_neg e2, if_neg (fun hh => e2 ⟨this.1 hh.1, hh.2⟩)]
theorem oneTo_miss {s : DSurf} (h : s.ok) (g : Grid) (old : Int → Int → Int) {k : Nat} (hk : k < ((surfSize s).1 * (surfSize s).2).toNat) (x y : Int) (hg : ¬ (x = kx s k ∧ y = ky s k ∧ inG g x y = true)) : oneTo s g old (k + 1) x y = oneTo s g old k x y := by
  unfold oneTo
  have hx := hitTo_succ h hk x y
  by_cases e2 : hitTo s k x y ∧ inG g x y = true
  · rw [if_pos e2, if_pos ⟨hx.2 (.inl e2.1), e2.2⟩]
  · rw [if_neg e2, if_neg (fun hh => by
      rcases hx.1 hh.1 with h1 | ⟨h1, h2⟩
      · exact e2 ⟨h1, hh.2⟩
      · exact hg ⟨h1, h2, hh.2⟩)]
theorem oneTo_all {s : DSurf} (h : s.ok) (g : Grid) (old : Int → Int → Int) (x y : Int) : oneTo s g old ((surfSize s).1 * (surfSize s).2).toNat x y = if (rawRect s).has x y ∧ inG g x y = true then over (pixOf s x y) (old x y) else old x y := by
  unfold oneTo
  by_cases e : (rawRect s).has x y ∧ inG g x y = true
  · rw [if_pos e, if_pos ⟨(hitTo_all h x y).2 e.1, e.2⟩]
  · rw [if_neg e, if_neg (fun hh => e ⟨(hitTo_all h x y).1 hh.1, hh.2⟩)]
theorem oneTo_pix {s : DSurf} (h : s.ok) (g : Grid) {old : Int → Int → Int} (k : Nat) {x y : Int} (ho : pixP (old x y)) : pixP (oneTo s g old k x y) := by
  unfold oneTo
  split
  · have := over_bd ((pictureOf_ok h).at_pix (x - s.X) (y - s.Y)) ho
    show pixP (over ((pictureOf s).at (x - s.X) (y - s.Y)) (old x y))
    unfold pixP; omega
  · exact ho
/-! opaque surfaces hide what is below -/
theorem prt_full {a : Int} (h : byteP a) : prt a 255 = a := by
  unfold prt; rw [if_pos ⟨h, by unfold byteP; omega⟩]; unfold byteP at h; omega
theorem prt_none {a : Int} (h : byteP a) : prt a 0 = 0 := by
  unfold prt; rw [if_pos ⟨h, by unfold byteP; omega⟩]; unfold byteP at h; omega
theorem over_opaque {t b c : Int} (ht : 4278190080 ≤ t ∧ t ≤ 4294967295) (hb : pixP b) (hc : pixP c) : over t b = over t c := by
  have h0 : chan t 0 = 255 := ((opaqueP_iff t).2 ht).2
  have hp : pixP t := ((opaqueP_iff t).2 ht).1
  unfold over
  rw [if_pos ⟨hp, hb⟩, if_pos ⟨hp, hc⟩, h0]
  rw [show (255 - 255 : Int) = 0 by omega]
  rw [prt_none (chan_bd b 1), prt_none (chan_bd b 2), prt_none (chan_bd b 3), prt_none (chan_bd c 1), prt_none (chan_bd c 2), prt_none (chan_bd c 3)]
theorem pixOf_opaque {s : DSurf} (h : isOpaqueS s) {x y : Int} (hh : (surfRect s).has x y) : 4278190080 ≤ pixOf s x y ∧ pixOf s x y ≤ 4294967295 := by
  have hv : s.Visible = true := by
    by_cases e : s.Visible = true
    · exact e
    · rw [surfRect_hid e] at hh; exact absurd hh (zero_has _ _)
  have hok := h.1
  have hs := surfSize_bd hok
  have hp := surfSize_pic hok
  rw [surfRect_vis hok hv] at hh
  have h3 := hh.2
  unfold rawRect at h3; dsimp only at h3
  have hl := (pictureOf_ok hok).lenN
  have hpl := (place_lt (w := (surfSize s).1) (h := (surfSize s).2) (x := x - s.X) (y := y - s.Y) (by omega) (by omega)).2.2
  refine h.2 _ ?_
  rw [hl, hp.1, hp.2]; exact hpl
end Sx
/-
  The plain functions, continued: edits of scenes; damage. No program in sight.
-/
set_option linter.unusedVariables false
namespace Sx

/-! ### chapter 10: edits -/
structure DEdit where
  Kind : Int
  Id : Int
  A : Int
  B : Int
  buf : DImg
deriving DecidableEq
def DEdit.zero : DEdit := ⟨0, 0, 0, 0, DImg.zero⟩
instance : Inhabited DEdit := ⟨DEdit.zero⟩
theorem DEdit.eq {a b : DEdit} (h1 : a.Kind = b.Kind) (h2 : a.Id = b.Id) (h3 : a.A = b.A) (h4 : a.B = b.B) (h5 : a.buf = b.buf) : a = b := by cases a; cases b; simp_all
def added (e : DEdit) : DSurf := ⟨e.Id, e.A, e.B, 0, 0, 255, 0, true, e.buf⟩
/-- surface number k, edited in place -/
def touched (x : DSurf) (e : DEdit) : DSurf :=
  if e.Kind = 2 then { x with X := e.A, Y := e.B }
  else if e.Kind = 5 then { x with buf := e.buf }
  else if e.Kind = 6 then { x with Alpha := e.A }
  else if e.Kind = 7 then { x with Orient := e.A }
  else if e.Kind = 8 then { x with W := e.A, H := e.B }
  else { x with Visible := decide (e.A = 1) }
def editK (l : List DSurf) (e : DEdit) (k : Nat) : List DSurf :=
  if e.Kind = 1 then l.eraseIdx k
  else if e.Kind = 3 then l.eraseIdx k ++ [l.getD k default]
  else if e.Kind = 4 then l.getD k default :: l.eraseIdx k
  else l.set k (touched (l.getD k default) e)
/-- is there such a surface, if one is needed, and such a kind -/
def editable (s : DScene) (e : DEdit) : Prop := e.Kind = 0 ∨ e.Kind = 10 ∨ ((1 ≤ e.Kind ∧ e.Kind ≤ 9) ∧ 0 ≤ surfaceIndex s.ss e.Id)
instance (s : DScene) (e : DEdit) : Decidable (editable s e) := by unfold editable; infer_instance
def edited (s : DScene) (e : DEdit) : DScene :=
  if e.Kind = 0 then { s with ss := s.ss ++ [added e] }
  else if e.Kind = 10 then { s with Back := e.A }
  else { s with ss := editK s.ss e (surfaceIndex s.ss e.Id).toNat }
def doEditOk (s : DScene) (e : DEdit) : Prop := s.ok ∧ editable s e ∧ (edited s e).ok
instance (s : DScene) (e : DEdit) : Decidable (doEditOk s e) := by unfold doEditOk; infer_instance
def doEdit (s : DScene) (e : DEdit) : DScene := if doEditOk s e then edited s e else s
def doEdits (s : DScene) (l : List DEdit) : DScene := l.foldl doEdit s
def editCount : DScene → List DEdit → Nat
  | _, [] => 0
  | s, e :: l => (if doEditOk s e then 1 else 0) + editCount (doEdit s e) l
theorem editCount_le : ∀ (s : DScene) (l : List DEdit), editCount s l ≤ l.length
  | _, [] => Nat.le_refl _
  | s, e :: l => by have := editCount_le (doEdit s e) l; simp only [editCount, List.length_cons]; split <;> omega
theorem doEdit_ok {s : DScene} (h : s.ok) (e : DEdit) : (doEdit s e).ok := by
  unfold doEdit; split
  · rename_i hh; exact hh.2.2
  · exact h
theorem edited_size (s : DScene) (e : DEdit) : (edited s e).W = s.W ∧ (edited s e).H = s.H := by
  unfold edited; split
  · exact ⟨rfl, rfl⟩
  · split <;> exact ⟨rfl, rfl⟩
theorem doEdit_size (s : DScene) (e : DEdit) : (doEdit s e).W = s.W ∧ (doEdit s e).H = s.H := by
  unfold doEdit; split
  · exact edited_size s e
  · exact ⟨rfl, rfl⟩
theorem doEdits_ok : ∀ {s : DScene} (l : List DEdit), s.ok → (doEdits s l).ok
  | s, [], h => h
  | s, e :: l, h => doEdits_ok (s := doEdit s e) l (doEdit_ok h e)
theorem doEdits_size : ∀ (s : DScene) (l : List DEdit), (doEdits s l).W = s.W ∧ (doEdits s l).H = s.H
  | s, [] => ⟨rfl, rfl⟩
  | s, e :: l => by
    have h1 := doEdits_size (doEdit s e) l
    have h2 := doEdit_size s e
    exact ⟨h1.1.trans h2.1, h1.2.trans h2.2⟩
/-- the first j edits -/
theorem doEdits_take {s : DScene} {l : List DEdit} {j : Nat} (h : j < l.length) : doEdits s (l.take (j + 1)) = doEdit (doEdits s (l.take j)) (l.getD j default) := by
  unfold doEdits
  rw [List.take_add_one, List.getElem?_eq_getElem h, List.foldl_append]
  simp [List.getD_eq_getElem?_getD, List.getElem?_eq_getElem h]
theorem editCount_append : ∀ (s : DScene) (k l : List DEdit), editCount s (k ++ l) = editCount s k + editCount (doEdits s k) l
  | s, [], l => by simp [editCount, doEdits]
  | s, e :: k, l => by
    have := editCount_append (doEdit s e) k l
    simp only [List.cons_append, editCount]
    rw [this]
    show _ = _ + editCount (doEdits (doEdit s e) k) l
    omega
theorem editCount_take {s : DScene} {l : List DEdit} {j : Nat} (h : j < l.length) : editCount s (l.take (j + 1)) = editCount s (l.take j) + (if doEditOk (doEdits s (l.take j)) (l.getD j default) then 1 else 0) := by
  rw [List.take_add_one, List.getElem?_eq_getElem h, editCount_append]
  simp [editCount, List.getD_eq_getElem?_getD, List.getElem?_eq_getElem h]

/-! surfaces by their Ids -/
theorem ids_inj {l : List DSurf} (h : surfsOk l l.length) {i j : Nat} (hi : i < l.length) (hj : j < l.length) (e : (l.getD i default).Id = (l.getD j default).Id) : i = j := by
  rcases Nat.lt_trichotomy i j with h1 | h1 | h1
  · exact absurd e ((h j hj).2 i h1)
  · exact h1
  · exact absurd e.symm ((h i hi).2 j h1)
theorem mem_getD {l : List DSurf} {s : DSurf} : s ∈ l ↔ ∃ i, i < l.length ∧ l.getD i default = s := by
  rw [List.mem_iff_getElem]
  constructor
  · rintro ⟨i, hi, e⟩; exact ⟨i, hi, by rw [List.getD_eq_getElem?_getD, List.getElem?_eq_getElem hi]; exact e⟩
  · rintro ⟨i, hi, e⟩; exact ⟨i, hi, by rw [List.getD_eq_getElem?_getD, List.getElem?_eq_getElem hi] at e; exact e⟩
theorem surfaceIndex_at {l : List DSurf} (h : surfsOk l l.length) {i : Nat} (hi : i < l.length) : surfaceIndex l (l.getD i default).Id = i :=
  surfaceIndex_found hi (fun j hj => (h i hi).2 j hj) rfl
/-- a surface of one list in another one -/
theorem index_same {l : List DSurf} (h : surfsOk l l.length) (s : DSurf) : s ∈ l ↔ 0 ≤ surfaceIndex l s.Id ∧ l.getD (surfaceIndex l s.Id).toNat default = s := by
  constructor
  · intro hs
    obtain ⟨i, hi, e⟩ := mem_getD.1 hs
    have := surfaceIndex_at h hi
    rw [e] at this
    rw [this]
    exact ⟨by omega, by simpa using e⟩
  · rintro ⟨h1, h2⟩
    rcases surfaceIndex_bd l s.Id with ⟨h3, _⟩ | ⟨j, h3, h4, _⟩
    · omega
    · rw [h3] at h2; exact mem_getD.2 ⟨j, h4, by simpa using h2⟩
theorem index_nonneg {l : List DSurf} (id : Int) : 0 ≤ surfaceIndex l id ↔ ∃ i, i < l.length ∧ (l.getD i default).Id = id := by
  rcases surfaceIndex_bd l id with ⟨h1, h2⟩ | ⟨j, h1, h2, h3, _⟩
  · exact ⟨fun h => by omega, fun ⟨i, hi, e⟩ => absurd e (h2 i hi)⟩
  · exact ⟨fun _ => ⟨j, h2, h3⟩, fun _ => by omega⟩
theorem surfsOk_nodup {l : List DSurf} (h : surfsOk l l.length) : l.Nodup := by
  have hp : l.Pairwise (fun a b => a ≠ b) := by
    rw [List.pairwise_iff_getElem]
    intro i j hi hj hij e
    have := ids_inj h hi hj (by rw [List.getD_eq_getElem?_getD, List.getD_eq_getElem?_getD, List.getElem?_eq_getElem hi, List.getElem?_eq_getElem hj, e])
    omega
  exact hp

/-! ### chapter 13: damage -/
/-- at this point the scenes may differ -/
def damP (a b : DScene) (x y : Int) : Prop :=
  (∃ s, s ∈ a.ss ∧ s ∉ b.ss ∧ (surfRect s).has x y) ∨ (∃ s, s ∈ b.ss ∧ s ∉ a.ss ∧ (surfRect s).has x y) ∨
  (∃ i k : Nat, k < i ∧ i < b.ss.length ∧ 0 ≤ surfaceIndex a.ss (b.ss.getD i default).Id ∧ surfaceIndex a.ss (b.ss.getD i default).Id < surfaceIndex a.ss (b.ss.getD k default).Id ∧ (surfRect (b.ss.getD i default)).has x y ∧ (surfRect (b.ss.getD k default)).has x y)
def seenAt (l : List DSurf) (x y : Int) : List DSurf := l.filter (fun s => decide ((surfRect s).has x y))
theorem layers_seen (x y : Int) : ∀ (l : List DSurf) (b : Int), layers l x y b = layers (seenAt l x y) x y b
  | [], _ => rfl
  | s :: l, b => by
    unfold seenAt
    rw [layers_cons, List.filter_cons]
    by_cases h : (surfRect s).has x y
    · rw [if_pos (by simpa using h), layers_cons]; exact layers_seen x y l _
    · rw [if_neg (by simpa using h)]
      have : layer s x y b = b := by unfold layer; rw [if_neg h]
      rw [this]; exact layers_seen x y l b
theorem sorted_ext {α : Type} (f : α → Int) : ∀ (k l : List α), k.Pairwise (fun a b => f a < f b) → l.Pairwise (fun a b => f a < f b) → (∀ a, a ∈ k ↔ a ∈ l) → k = l
  | [], [], _, _, _ => rfl
  | [], b :: l, _, _, h => absurd ((h b).2 (List.mem_cons_self ..)) (by simp)
  | a :: k, [], _, _, h => absurd ((h a).1 (List.mem_cons_self ..)) (by simp)
  | a :: k, b :: l, hk, hl, h => by
    rw [List.pairwise_cons] at hk hl
    have hab : a = b := by
      rcases List.mem_cons.1 ((h a).1 (List.mem_cons_self ..)) with e | e
      · exact e
      · rcases List.mem_cons.1 ((h b).2 (List.mem_cons_self ..)) with e2 | e2
        · exact e2.symm
        · have := hk.1 b e2; have := hl.1 a e; omega
    subst hab
    rw [sorted_ext f k l hk.2 hl.2 (fun c => ?_)]
    constructor
    · intro hc
      rcases List.mem_cons.1 ((h c).1 (List.mem_cons_of_mem _ hc)) with e | e
      · subst e; have := hk.1 c hc; omega
      · exact e
    · intro hc
      rcases List.mem_cons.1 ((h c).2 (List.mem_cons_of_mem _ hc)) with e | e
      · subst e; have := hl.1 c hc; omega
      · exact e
theorem pairwise_getD {l : List DSurf} {R : DSurf → DSurf → Prop} (h : ∀ i j, i < j → j < l.length → R (l.getD i default) (l.getD j default)) : l.Pairwise R := by
  rw [List.pairwise_iff_getElem]
  intro i j hi hj hij
  have := h i j hij hj
  rwa [List.getD_eq_getElem?_getD, List.getD_eq_getElem?_getD, List.getElem?_eq_getElem hi, List.getElem?_eq_getElem hj] at this
/-- outside of the damage the scenes look the same -/
theorem seenAt_same {a b : DScene} (ha : a.ok) (hb : b.ok) {x y : Int} (h : ¬ damP a b x y) : seenAt a.ss x y = seenAt b.ss x y := by
  have hsa := ha.2.2.2.2
  have hsb := hb.2.2.2.2
  have h1 : ∀ s, s ∈ a.ss → (surfRect s).has x y → s ∈ b.ss := fun s hs hh => by
    by_cases e : s ∈ b.ss
    · exact e
    · exact absurd (.inl ⟨s, hs, e, hh⟩) h
  have h2 : ∀ s, s ∈ b.ss → (surfRect s).has x y → s ∈ a.ss := fun s hs hh => by
    by_cases e : s ∈ a.ss
    · exact e
    · exact absurd (.inr (.inl ⟨s, hs, e, hh⟩)) h
  refine sorted_ext (fun s => surfaceIndex a.ss s.Id) _ _ ?_ ?_ (fun s => ?_)
  · refine List.Pairwise.filter _ (pairwise_getD fun i j hij hj => ?_)
    rw [surfaceIndex_at hsa (by omega), surfaceIndex_at hsa hj]; omega
  · have hp : b.ss.Pairwise (fun s t => (surfRect s).has x y → (surfRect t).has x y → surfaceIndex a.ss s.Id < surfaceIndex a.ss t.Id) := by
      refine pairwise_getD fun i j hij hj hi' hj' => ?_
      have hm1 := h2 _ (mem_getD.2 ⟨i, by omega, rfl⟩) hi'
      have hm2 := h2 _ (mem_getD.2 ⟨j, hj, rfl⟩) hj'
      have n1 := (index_same hsa _).1 hm1
      have n2 := (index_same hsa _).1 hm2
      by_cases hlt : surfaceIndex a.ss (b.ss.getD j default).Id < surfaceIndex a.ss (b.ss.getD i default).Id
      · exact absurd (.inr (.inr ⟨j, i, hij, hj, n2.1, hlt, hj', hi'⟩)) h
      · have hne : surfaceIndex a.ss (b.ss.getD j default).Id ≠ surfaceIndex a.ss (b.ss.getD i default).Id := fun e => by
          have e2 := n1.2
          rw [← e, n2.2] at e2
          have := ids_inj hsb (i := i) (j := j) (by omega) hj (by rw [e2])
          omega
        omega
    unfold seenAt
    rw [List.pairwise_filter]
    exact hp.imp (fun hh h3 h4 => hh (of_decide_eq_true h3) (of_decide_eq_true h4))
  · unfold seenAt
    rw [List.mem_filter, List.mem_filter, decide_eq_true_iff]
    exact ⟨fun hh => ⟨h1 s hh.1 hh.2, hh.2⟩, fun hh => ⟨h2 s hh.1 hh.2, hh.2⟩⟩
theorem paintF_same {a b : DScene} (ha : a.ok) (hb : b.ok) (hB : a.Back = b.Back) {x y : Int} (h : ¬ damP a b x y) : paintF a x y = paintF b x y := by
  unfold paintF
  rw [layers_seen x y a.ss, layers_seen x y b.ss, seenAt_same ha hb h, hB]
theorem not_damP_self {a : DScene} (ha : a.ok) (x y : Int) : ¬ damP a a x y := by
  rintro (⟨s, h1, h2, _⟩ | ⟨s, h1, h2, _⟩ | ⟨i, k, h1, h2, h3, h4, _⟩)
  · exact h2 h1
  · exact h2 h1
  · rw [surfaceIndex_at ha.2.2.2.2 h2, surfaceIndex_at ha.2.2.2.2 (by omega)] at h4; omega
end Sx
/-
  The plain functions, continued: what is covered, what can be seen; painting only that. No program in sight.
-/
set_option linter.unusedVariables false
namespace Sx
/-- the screen of a scene -/
def scrR (s : DScene) : DRect := ⟨0, 0, s.W, s.H⟩
def scrG (s : DScene) : Grid := rectG (scrR s)
theorem scrR_ok {s : DScene} (h : s.ok) : (scrR s).ok := by
  have h1 := h.1; have h2 := h.2.1
  unfold scrR DRect.ok; dsimp only; omega
theorem scrG_iff {s : DScene} (h : s.ok) (y x : Nat) : scrG s y x = true ↔ (x : Int) < s.W ∧ (y : Int) < s.H := by
  show decide ((scrR s).has x y) = true ↔ _
  rw [decide_eq_true_iff]
  unfold DRect.has
  constructor
  · intro hh; have := hh.2; unfold scrR at this; dsimp only at this; omega
  · intro hh; exact ⟨scrR_ok h, by unfold scrR; dsimp only; omega⟩
/-- does this surface cover the point -/
def hides (q : DSurf) (y x : Nat) : Bool := decide (isOpaqueS q) && (surfRect q).holds y x
/-- covered by opaque surfaces from number n on -/
def coverG (s : DScene) (n : Nat) : Grid := Grid.and (fun y x => (s.ss.drop n).any (fun q => hides q y x)) (scrG s)
/-- where surface number k can be seen -/
def seenG (s : DScene) (k : Nat) : Grid := ((rectG (surfRect (s.ss.getD k default))).and (scrG s)).without (coverG s (k + 1))
theorem drop_any {l : List DSurf} {n : Nat} {f : DSurf → Bool} : (l.drop n).any f = true ↔ ∃ i, n ≤ i ∧ i < l.length ∧ f (l.getD i default) = true := by
  rw [List.any_eq_true]
  constructor
  · rintro ⟨q, hq, hf⟩
    obtain ⟨i, hi, e⟩ := List.mem_iff_getElem.1 hq
    rw [List.length_drop] at hi
    rw [List.getElem_drop] at e
    exact ⟨n + i, by omega, by omega, by rw [List.getD_eq_getElem?_getD, List.getElem?_eq_getElem (by omega), Option.getD_some, e]; exact hf⟩
  · rintro ⟨i, h1, h2, hf⟩
    refine ⟨l.getD i default, ?_, hf⟩
    rw [List.getD_eq_getElem?_getD, List.getElem?_eq_getElem h2, Option.getD_some]
    exact List.mem_iff_getElem.2 ⟨i - n, by rw [List.length_drop]; omega, by rw [List.getElem_drop]; congr 1; omega⟩
/-- no opaque surface from number k on covers the point -/
def bare (s : DScene) (k y x : Nat) : Prop := ∀ i, k ≤ i → i < s.ss.length → hides (s.ss.getD i default) y x = false
theorem coverG_iff {s : DScene} {k y x : Nat} (hs : scrG s y x = true) : coverG s k y x = false ↔ bare s k y x := by
  unfold coverG Grid.and
  rw [hs, Bool.and_true]
  constructor
  · intro h i h1 h2
    cases hf : hides (s.ss.getD i default) y x
    · rfl
    · have := (drop_any (f := fun q => hides q y x)).2 ⟨i, h1, h2, hf⟩
      rw [show (s.ss.drop k).any (fun q => hides q y x) = false from h] at this; cases this
  · intro h
    show (s.ss.drop k).any (fun q => hides q y x) = false
    cases hf : (s.ss.drop k).any (fun q => hides q y x)
    · rfl
    · obtain ⟨i, h1, h2, h3⟩ := drop_any.1 hf
      rw [h i h1 h2] at h3; cases h3
theorem seenG_bare {s : DScene} {k y x : Nat} (hs : scrG s y x = true) (hb : bare s (k + 1) y x) : seenG s k y x = (surfRect (s.ss.getD k default)).holds y x := by
  unfold seenG Grid.without
  rw [(coverG_iff hs).2 hb]
  unfold Grid.and rectG
  rw [hs]; simp
/-- only what can be seen is painted: after n surfaces -/
def pvTo (s : DScene) : Nat → Nat → Nat → Int
  | 0, _, _ => s.Back
  | n + 1, x, y => if seenG s n y x = true then over (pixOf (s.ss.getD n default) x y) (pvTo s n x y) else pvTo s n x y
theorem getD_ok {s : DScene} (h : s.ok) {k : Nat} (hk : k < s.ss.length) : (s.ss.getD k default).ok := (h.2.2.2.2 k hk).1
theorem pvTo_pix {s : DScene} (h : s.ok) : ∀ n x y, n ≤ s.ss.length → pixP (pvTo s n x y)
  | 0, _, _, _ => h.back
  | n + 1, x, y, hn => by
    have ih := pvTo_pix h n x y (by omega)
    unfold pvTo
    split
    · have := over_bd ((pictureOf_ok (getD_ok h (show n < s.ss.length by omega))).at_pix (x - (s.ss.getD n default).X) (y - (s.ss.getD n default).Y)) ih
      show pixP (over ((pictureOf (s.ss.getD n default)).at (x - (s.ss.getD n default).X) (y - (s.ss.getD n default).Y)) (pvTo s n x y))
      unfold pixP; omega
    · exact ih
theorem layer_holds (q : DSurf) (x y : Nat) (b : Int) : layer q x y b = if (surfRect q).holds y x = true then over (pixOf q x y) b else b := by
  unfold layer DRect.holds
  by_cases h : (surfRect q).has x y
  · rw [if_pos h, if_pos (decide_eq_true h)]
  · rw [if_neg h, if_neg (by rw [decide_eq_false h]; simp)]
theorem pv_paint {s : DScene} (h : s.ok) {x y : Nat} (hs : scrG s y x = true) : ∀ k, k ≤ s.ss.length → bare s k y x → pvTo s k x y = paintTo s k x y
  | 0, _, _ => rfl
  | k + 1, hk, hb => by
    have hlt : k < s.ss.length := by omega
    rw [paintTo_succ hlt, layer_holds]
    unfold pvTo
    rw [seenG_bare hs hb]
    by_cases hc : hides (s.ss.getD k default) y x = true
    · unfold hides at hc
      rw [Bool.and_eq_true, decide_eq_true_iff] at hc
      rw [if_pos hc.2, if_pos hc.2]
      exact over_opaque (pixOf_opaque hc.1 (of_decide_eq_true hc.2)) (pvTo_pix h k x y (by omega)) (paintTo_pix h k x y)
    · have hb' : bare s k y x := fun i h1 h2 => by
        by_cases e : i = k
        · rw [e]; simpa using hc
        · exact hb i (by omega) h2
      rw [pv_paint h hs k (by omega) hb']
theorem pv_all {s : DScene} (h : s.ok) {x y : Nat} (hs : scrG s y x = true) : pvTo s s.ss.length x y = paintF s x y := by
  rw [← paintTo_all]
  exact pv_paint h hs _ (Nat.le_refl _) (fun i h1 h2 => by omega)
/-! surfaces that cannot be seen can be left out -/
/-- the first k surfaces but those that keep leaves out -/
def keptTo (s : DScene) (keep : Nat → Bool) : Nat → List DSurf
  | 0 => []
  | k + 1 => keptTo s keep k ++ (if keep k = true then [s.ss.getD k default] else [])
theorem kept_ok {s : DScene} (h : s.ok) (keep : Nat → Bool) : ∀ k, k ≤ s.ss.length → ∀ q ∈ keptTo s keep k, q.ok
  | 0, _, q, hq => by cases hq
  | k + 1, hk, q, hq => by
    unfold keptTo at hq
    rcases List.mem_append.1 hq with hq | hq
    · exact kept_ok h keep k (by omega) q hq
    · split at hq
      · rw [List.mem_singleton] at hq; rw [hq]; exact getD_ok h (by omega)
      · cases hq
theorem kept_paint {s : DScene} (h : s.ok) {keep : Nat → Bool} (hkeep : ∀ k y x, k < s.ss.length → y < 16 → x < 16 → seenG s k y x = true → keep k = true) {x y : Nat} (hx : x < 16) (hy : y < 16) (hs : scrG s y x = true) :
    ∀ k, k ≤ s.ss.length → bare s k y x → layers (keptTo s keep k) x y s.Back = paintTo s k x y
  | 0, _, _ => rfl
  | k + 1, hk, hb => by
    have hlt : k < s.ss.length := by omega
    have hsb := seenG_bare (k := k) hs hb
    unfold keptTo
    rw [paintTo_succ hlt, layers_append]
    have hp1 : pixP (layers (keptTo s keep k) x y s.Back) := layers_pix (kept_ok h keep k (by omega)) h.back
    by_cases hc : hides (s.ss.getD k default) y x = true
    · unfold hides at hc
      rw [Bool.and_eq_true, decide_eq_true_iff] at hc
      rw [if_pos (hkeep k y x hlt hy hx (by rw [hsb]; exact hc.2))]
      show layer (s.ss.getD k default) x y _ = _
      rw [layer_holds, layer_holds, if_pos hc.2, if_pos hc.2]
      exact over_opaque (pixOf_opaque hc.1 (of_decide_eq_true hc.2)) hp1 (paintTo_pix h k x y)
    · have hb' : bare s k y x := fun i h1 h2 => by
        by_cases e : i = k
        · rw [e]; simpa using hc
        · exact hb i (by omega) h2
      rw [kept_paint h hkeep hx hy hs k (by omega) hb']
      by_cases hh : (surfRect (s.ss.getD k default)).holds y x = true
      · rw [if_pos (hkeep k y x hlt hy hx (by rw [hsb]; exact hh))]; rfl
      · rw [layer_holds, if_neg hh]
        split
        · show layer (s.ss.getD k default) x y _ = _
          rw [layer_holds, if_neg hh]
        · rfl
end Sx
/-
  The plain functions, continued: damage as regions; painting into an image; chains of buffers. No program in sight.
-/
set_option linter.unusedVariables false
namespace Sx
/-! ### chapter 13 -/
/-- the points of the damage -/
def damG (a b : DScene) : Grid := fun y x =>
  a.ss.any (fun s => !decide (s ∈ b.ss) && (surfRect s).holds y x) || b.ss.any (fun s => !decide (s ∈ a.ss) && (surfRect s).holds y x) ||
  (List.range b.ss.length).any (fun i => (List.range i).any (fun k => decide (0 ≤ surfaceIndex a.ss (b.ss.getD i default).Id ∧ surfaceIndex a.ss (b.ss.getD i default).Id < surfaceIndex a.ss (b.ss.getD k default).Id) && ((surfRect (b.ss.getD i default)).holds y x && (surfRect (b.ss.getD k default)).holds y x)))
theorem damG_iff (a b : DScene) (y x : Nat) : damG a b y x = true ↔ damP a b x y := by
  unfold damG damP DRect.holds
  simp only [Bool.or_eq_true, List.any_eq_true, Bool.and_eq_true, Bool.not_eq_true', decide_eq_true_iff, decide_eq_false_iff_not, List.mem_range]
  constructor
  · rintro ((⟨s, h1, h2, h3⟩ | ⟨s, h1, h2, h3⟩) | ⟨i, hi, k, hk, ⟨h1, h2⟩, h3, h4⟩)
    · exact .inl ⟨s, h1, h2, h3⟩
    · exact .inr (.inl ⟨s, h1, h2, h3⟩)
    · exact .inr (.inr ⟨i, k, hk, hi, h1, h2, h3, h4⟩)
  · rintro (⟨s, h1, h2, h3⟩ | ⟨s, h1, h2, h3⟩ | ⟨i, k, hk, hi, h1, h2, h3, h4⟩)
    · exact .inl (.inl ⟨s, h1, h2, h3⟩)
    · exact .inl (.inr ⟨s, h1, h2, h3⟩)
    · exact .inr ⟨i, hi, k, hk, ⟨h1, h2⟩, h3, h4⟩
def sameSize (a b : DScene) : Prop := a.W = b.W ∧ a.H = b.H
instance (a b : DScene) : Decidable (sameSize a b) := by unfold sameSize; infer_instance
def damageOf (a b : DScene) : List DRect :=
  if a.ok ∧ b.ok then (if sameSize a b ∧ a.Back = b.Back then canon ((damG a b).and (scrG b)) else canon (scrG b)) else []
theorem canon_empty {g : Grid} (h : g.eqv Grid.none) : canon g = [] := by
  rw [canon_congr h]; decide +kernel
theorem regionOk_nil : regionOk [] := by unfold regionOk; exact canon_empty (fun _ _ _ _ => rfl)
theorem damageOf_ok (a b : DScene) : regionOk (damageOf a b) := by
  unfold damageOf
  split
  · split
    · exact regionOk_canon _
    · exact regionOk_canon _
  · exact regionOk_nil
theorem scr_lt {s : DScene} (h : s.ok) {y x : Nat} (hs : scrG s y x = true) : y < 16 ∧ x < 16 := by
  have := (scrG_iff h y x).1 hs
  have h1 := h.1; have h2 := h.2.1
  omega
/-- outside of the damage two scenes of one size look the same -/
theorem damage_same {a b : DScene} (ha : a.ok) (hb : b.ok) (hsz : sameSize a b) {y x : Nat} (hs : scrG b y x = true) (hd : points (damageOf a b) y x = false) : paintF a x y = paintF b x y := by
  have hl := scr_lt hb hs
  unfold damageOf at hd
  rw [if_pos ⟨ha, hb⟩] at hd
  by_cases hB : sameSize a b ∧ a.Back = b.Back
  · rw [if_pos hB, points_canon _ y x hl.1 hl.2] at hd
    unfold Grid.and at hd
    rw [hs, Bool.and_true] at hd
    refine paintF_same ha hb hB.2 (fun hh => ?_)
    rw [(damG_iff a b y x).2 hh] at hd
    cases hd
  · rw [if_neg hB, points_canon _ y x hl.1 hl.2, hs] at hd; cases hd
theorem damage_self {a : DScene} (ha : a.ok) : damageOf a a = [] := by
  unfold damageOf
  rw [if_pos ⟨ha, ha⟩, if_pos ⟨⟨rfl, rfl⟩, rfl⟩]
  refine canon_empty (fun y x _ _ => ?_)
  unfold Grid.and Grid.none
  have : damG a a y x = false := by
    cases h : damG a a y x
    · rfl
    · exact absurd ((damG_iff a a y x).1 h) (not_damP_self ha x y)
  rw [this, Bool.false_and]
/-! ### copying the pixels of a region -/
def copyF (to fr : DImg) (g : Grid) (x y : Int) : Int := if g y.toNat x.toNat = true ∧ x < fr.W ∧ y < fr.H then fr.at x y else to.at x y
def copyRegion (to fr : DImg) (r : List DRect) : DImg := if to.ok ∧ fr.ok ∧ regionOk r then fimg (copyF to fr (points r)) to.W to.H else to
theorem copyRegion_ok {to fr : DImg} (h : to.ok) (r : List DRect) : (copyRegion to fr r).ok := by
  unfold copyRegion
  split
  · rename_i hh
    exact fimg_ok h.1 h.2.1 (fun x y _ _ _ _ => by unfold copyF; split <;> exact DImg.ok.at_pix (by first | exact hh.2.1 | exact h) _ _)
  · exact h
theorem copyRegion_size (to fr : DImg) (r : List DRect) : (copyRegion to fr r).W = to.W ∧ (copyRegion to fr r).H = to.H := by
  unfold copyRegion; split <;> exact ⟨rfl, rfl⟩
theorem copyRegion_at {to fr : DImg} (ht : to.ok) (hf : fr.ok) {r : List DRect} (hr : regionOk r) (hw : to.W = fr.W) (hh : to.H = fr.H) {x y : Int} (hx : 0 ≤ x ∧ x < to.W) (hy : 0 ≤ y ∧ y < to.H) :
    (copyRegion to fr r).at x y = if points r y.toNat x.toNat = true then fr.at x y else to.at x y := by
  unfold copyRegion
  rw [if_pos ⟨ht, hf, hr⟩, fimg_at _ hx hy]
  unfold copyF
  by_cases h : points r y.toNat x.toNat = true
  · rw [if_pos ⟨h, by omega, by omega⟩, if_pos h]
  · rw [if_neg (fun e => h e.1), if_neg h]
def paintInto (i : DImg) (s : DScene) (r : List DRect) : DImg := if s.ok then copyRegion i (painted s) r else i
/-- repainting the damage turns one scene's image into the other's -/
theorem repaired {a b : DScene} (ha : a.ok) (hb : b.ok) (hsz : sameSize a b) : paintInto (painted a) b (damageOf a b) = painted b := by
  unfold paintInto
  rw [if_pos hb]
  have hp := painted_ok ha
  have hq := painted_ok hb
  have hw : (painted a).W = (painted b).W := hsz.1
  have hh : (painted a).H = (painted b).H := hsz.2
  have hcs := copyRegion_size (painted a) (painted b) (damageOf a b)
  refine DImg.ext' (copyRegion_ok hp _) hq (by rw [hcs.1, hw]) (by rw [hcs.2, hh]) (fun x y h1 h2 h3 h4 => ?_)
  rw [hcs.1] at h2
  rw [hcs.2] at h4
  rw [copyRegion_at hp hq (damageOf_ok a b) hw hh ⟨h1, h2⟩ ⟨h3, h4⟩]
  split
  · rfl
  · rename_i hd
    have h2' : x < b.W := by rw [hw] at h2; exact h2
    have h4' : y < b.H := by rw [hh] at h4; exact h4
    have hs : scrG b y.toNat x.toNat = true := (scrG_iff hb _ _).2 ⟨by omega, by omega⟩
    have := damage_same ha hb hsz hs (by simpa using hd)
    rw [show ((x.toNat : Nat) : Int) = x by omega, show ((y.toNat : Nat) : Int) = y by omega] at this
    have e1 : (painted a).at x y = paintF a x y := fimg_at (paintF a) (w := a.W) (h := a.H) ⟨h1, h2⟩ ⟨h3, h4⟩
    have e2 : (painted b).at x y = paintF b x y := fimg_at (paintF b) (w := b.W) (h := b.H) ⟨h1, h2'⟩ ⟨h3, h4'⟩
    rw [e1, e2]; exact this
end Sx
/-
  The plain functions, continued: the points of rectangles, one by one. No program in sight.
-/
set_option linter.unusedVariables false
namespace Sx
/-- a rectangle is marked up to row j, and in that row up to place i -/
def boxG (r : DRect) (old : Grid) (j i : Nat) : Grid := fun b a => old b a || decide ((r.X ≤ (a : Int) ∧ (a : Int) < r.X + r.W ∧ r.Y ≤ (b : Int)) ∧ ((b : Int) < r.Y + j ∨ ((b : Int) = r.Y + j ∧ (a : Int) < r.X + i)))
def putG (g : Grid) (y x : Nat) : Grid := fun b a => if b = y ∧ a = x then true else g b a
theorem boxG_zero (r : DRect) (old : Grid) : (boxG r old 0 0).eqv old := fun b a _ _ => by
  unfold boxG; rw [decide_eq_false (by omega), Bool.or_false]
theorem boxG_next {r : DRect} {old : Grid} {j i : Nat} (h0 : 0 ≤ r.X ∧ 0 ≤ r.Y) (hi : (i : Int) < r.W) : (putG (boxG r old j i) (r.Y + j).toNat (r.X + i).toNat).eqv (boxG r old j (i + 1)) := fun b a _ _ => by
  unfold putG boxG
  by_cases e : b = (r.Y + j).toNat ∧ a = (r.X + i).toNat
  · rw [if_pos e, decide_eq_true (by push_cast; omega), Bool.or_true]
  · rw [if_neg e]
    congr 1
    exact decide_eq_decide.2 ⟨fun h => ⟨h.1, by push_cast; omega⟩, fun h => ⟨h.1, by have h2 := h.2; push_cast at h2; omega⟩⟩
theorem boxG_row {r : DRect} {old : Grid} {j i : Nat} (hi : r.W ≤ (i : Int)) : (boxG r old j i).eqv (boxG r old (j + 1) 0) := fun b a _ _ => by
  unfold boxG
  congr 1
  exact decide_eq_decide.2 ⟨fun h => ⟨h.1, by push_cast; omega⟩, fun h => ⟨h.1, by have h2 := h.2; push_cast at h2; omega⟩⟩
theorem boxG_all {r : DRect} (h : r.ok) {old : Grid} {j : Nat} (hj : r.H = (j : Int)) : (boxG r old j 0).eqv (old.or (rectG r)) := fun b a _ _ => by
  unfold boxG Grid.or rectG DRect.holds
  congr 1
  exact decide_eq_decide.2 ⟨fun hh => ⟨h, by omega⟩, fun hh => by have h2 := hh.2; omega⟩
theorem points_take {l : List DRect} {k : Nat} (h : k < l.length) : points (l.take (k + 1)) = (points (l.take k)).or (rectG (l.getD k DRect.zero)) := by
  rw [List.take_add_one, List.getElem?_eq_getElem h, Option.toList_some, points_congr_append, points_one]
  congr 2
  rw [List.getD_eq_getElem?_getD, List.getElem?_eq_getElem h]; rfl
theorem points_take_screen {l : List DRect} {k : Nat} (h : k < l.length) : ((points (l.take k)).or (rectG ((l.getD k DRect.zero).inter DRect.screen))).eqv (points (l.take (k + 1))) := by
  rw [points_take h]
  exact Grid.or_congr (Grid.eqv.refl _) inter_screen
end Sx
/-
  The plain functions, continued: regions joined place by place, areas, marks. No program in sight.
-/
set_option linter.unusedVariables false
namespace Sx
/-- the first j places are joined -/
def placeG (op : Bool → Bool → Bool) (g h : Grid) (j : Nat) : Grid := fun y x => if y * 16 + x < j then op (g y x) (h y x) else g y x
theorem placeG_zero (op : Bool → Bool → Bool) (g h : Grid) : placeG op g h 0 = g := by funext y x; unfold placeG; rw [if_neg (by omega)]
theorem placeG_all (op : Bool → Bool → Bool) (g h : Grid) {j : Nat} (hj : 256 ≤ j) : (placeG op g h j).eqv (fun y x => op (g y x) (h y x)) := fun y x hy hx => by unfold placeG; rw [if_pos (by omega)]
/-- or, and, without -/
def joinOp (kind : Int) (p q : Bool) : Bool := if kind = 0 then p || q else if kind = 1 then p && q else p && !q
def joinOf (kind : Int) (a c : List DRect) : List DRect := if regionOk a ∧ regionOk c then canon (fun y x => joinOp kind (points a y x) (points c y x)) else []
def withoutOf (a c : List DRect) : List DRect := if regionOk a ∧ regionOk c then canon ((points a).without (points c)) else []
def unionOf (a c : List DRect) : List DRect := if regionOk a ∧ regionOk c then canon ((points a).or (points c)) else []
theorem joinOf_two (a c : List DRect) : joinOf 2 a c = withoutOf a c := by
  unfold joinOf withoutOf
  split
  · exact canon_congr (fun y x _ _ => by simp [joinOp, Grid.without])
  · rfl
theorem joinOf_zero (a c : List DRect) : joinOf 0 a c = unionOf a c := by
  unfold joinOf unionOf
  split
  · exact canon_congr (fun y x _ _ => by simp [joinOp, Grid.or])
  · rfl
def areaOf (l : List DRect) : Int := if regionOk l then area l else 0
theorem area_take_succ {l : List DRect} {j : Nat} (h : j < l.length) : area (l.take (j + 1)) = area (l.take j) + (l.getD j DRect.zero).W * (l.getD j DRect.zero).H := by
  rw [List.take_add_one, List.getElem?_eq_getElem h, area_append]
  simp [area, List.getD_eq_getElem?_getD, List.getElem?_eq_getElem h]
theorem inScreen_side {r : DRect} (h : r.inScreen) : (1 ≤ r.W ∧ r.W ≤ 16) ∧ (1 ≤ r.H ∧ r.H ≤ 16) := by unfold DRect.inScreen at h; omega
theorem inScreen_area {r : DRect} (h : r.inScreen) : 0 ≤ r.W * r.H ∧ r.W * r.H ≤ 256 := by
  have := inScreen_side h
  constructor
  · exact Int.mul_nonneg (by omega) (by omega)
  · exact Int.le_trans (Int.mul_le_mul this.1.2 (Int.le_refl _) (by omega) (by omega)) (by omega)
theorem getD_inScreen {l : List DRect} (h : regionOk l) {j : Nat} (hj : j < l.length) : (l.getD j DRect.zero).inScreen := by
  rw [List.getD_eq_getElem?_getD, List.getElem?_eq_getElem hj]
  exact h.inScreen (List.getElem_mem hj)
theorem area_take_bd {l : List DRect} (h : regionOk l) : ∀ j, 0 ≤ area (l.take j) ∧ area (l.take j) ≤ 256 * j
  | 0 => ⟨Int.le_refl _, Int.le_refl _⟩
  | j + 1 => by
    have ih := area_take_bd h j
    by_cases hj : j < l.length
    · have := inScreen_area (getD_inScreen h hj)
      rw [area_take_succ hj]
      push_cast; omega
    · rw [List.take_of_length_le (by omega)] at ih ⊢
      push_cast; omega
theorem areaOf_bd (l : List DRect) : 0 ≤ areaOf l ∧ areaOf l ≤ 256 * l.length := by
  unfold areaOf
  split
  · rename_i h
    have := area_take_bd h l.length
    rwa [List.take_length] at this
  · omega
theorem sumN_le16 (f : Nat → Nat) (h : ∀ y, f y ≤ 16) : sumN f 16 ≤ 256 := by
  have : ∀ n, sumN f n ≤ 16 * n := fun n => by
    induction n with
    | zero => exact Nat.le_refl _
    | succ n ih => have := h n; simp only [sumN]; omega
  exact this 16
/-- rectangles of ascending numbers -/
def iotaR (k : Int) (n : Nat) : List DRect := (List.range n).map (fun i : Nat => ⟨k + 4 * i, k + 4 * i + 1, k + 4 * i + 2, k + 4 * i + 3⟩)
theorem iotaR_length (k : Int) (n : Nat) : (iotaR k n).length = n := by simp [iotaR]
theorem iotaR_get (k : Int) {n i : Nat} (h : i < n) : (iotaR k n).getD i DRect.zero = ⟨k + 4 * i, k + 4 * i + 1, k + 4 * i + 2, k + 4 * i + 3⟩ := by
  simp [iotaR, List.getD_eq_getElem?_getD, h]
theorem iotaR_succ (k : Int) (n : Nat) : iotaR k (n + 1) = iotaR k n ++ [⟨k + 4 * n, k + 4 * n + 1, k + 4 * n + 2, k + 4 * n + 3⟩] := by
  simp [iotaR, List.range_succ]
/-- points of a list's first rectangles that are valid -/
theorem points_take_ok {l : List DRect} {k : Nat} (h : k < l.length) (hk : ¬ (l.getD k DRect.zero).ok) : points (l.take (k + 1)) = points (l.take k) := by
  rw [points_take h]
  funext y x
  unfold Grid.or rectG DRect.holds
  rw [decide_eq_false (fun hh => hk hh.1), Bool.or_false]
/-! covered: the first m surfaces of a list -/
def hideG (l : List DSurf) (m : Nat) : Grid := fun y x => (l.take m).any (fun q => hides q y x)
theorem hideG_zero (l : List DSurf) : hideG l 0 = Grid.none := by funext y x; rfl
theorem hideG_succ {l : List DSurf} {m : Nat} (h : m < l.length) (y x : Nat) : hideG l (m + 1) y x = (hideG l m y x || hides (l.getD m default) y x) := by
  unfold hideG
  rw [List.take_add_one, List.any_append, List.getElem?_eq_getElem h, List.getD_eq_getElem?_getD, List.getElem?_eq_getElem h]
  simp
theorem hideG_yes {l : List DSurf} {m : Nat} (h : m < l.length) (ho : isOpaqueS (l.getD m default)) : (hideG l m).or (rectG (surfRect (l.getD m default))) = hideG l (m + 1) := by
  funext y x
  rw [hideG_succ h]
  unfold Grid.or hides rectG
  rw [decide_eq_true ho, Bool.true_and]
theorem hideG_no {l : List DSurf} {m : Nat} (h : m < l.length) (ho : ¬ (isOpaqueS (l.getD m default) ∧ (l.getD m default).Visible = true)) : hideG l (m + 1) = hideG l m := by
  funext y x
  rw [hideG_succ h]
  unfold hides
  by_cases h1 : isOpaqueS (l.getD m default)
  · have hv : ¬ (l.getD m default).Visible = true := fun e => ho ⟨h1, e⟩
    unfold DRect.holds
    rw [surfRect_hid hv, decide_eq_false (zero_has _ _), Bool.and_false, Bool.or_false]
  · rw [decide_eq_false h1, Bool.false_and, Bool.or_false]
theorem coverG_hide (s : DScene) (n : Nat) {m : Nat} (hm : (s.ss.drop n).length ≤ m) : coverG s n = (hideG (s.ss.drop n) m).and (scrG s) := by
  unfold coverG hideG
  rw [List.take_of_length_le hm]
def coverOf (s : DScene) (k : Int) : List DRect := if s.ok ∧ (-1 ≤ k ∧ k ≤ (s.ss.length : Int) - 1) then canon (coverG s (k + 1).toNat) else []
def visibleOf (s : DScene) (k : Int) : List DRect := if s.ok ∧ (0 ≤ k ∧ k ≤ (s.ss.length : Int) - 1) then canon (seenG s k.toNat) else []
theorem coverOf_ok (s : DScene) (k : Int) : regionOk (coverOf s k) := by
  unfold coverOf; split
  · exact regionOk_canon _
  · exact regionOk_nil
theorem visibleOf_ok (s : DScene) (k : Int) : regionOk (visibleOf s k) := by
  unfold visibleOf; split
  · exact regionOk_canon _
  · exact regionOk_nil
/-! the reference's list of what covers -/
def coverL (s : DScene) (k : Nat) : Nat → List DRect
  | 0 => []
  | m + 1 => coverL s k m ++ (if isOpaqueS (s.ss.getD (k + m) default) then [(surfRect (s.ss.getD (k + m) default)).inter (scrR s)] else [])
theorem coverL_length (s : DScene) (k : Nat) : ∀ m, (coverL s k m).length ≤ m
  | 0 => Nat.le_refl _
  | m + 1 => by
    have := coverL_length s k m
    unfold coverL
    rw [List.length_append]
    split <;> simp <;> omega
theorem coverL_points {s : DScene} (h : s.ok) (k : Nat) : ∀ m, k + m ≤ s.ss.length → points (coverL s k m) = (hideG (s.ss.drop k) m).and (scrG s)
  | 0, _ => by
    funext y x
    rw [hideG_zero]; rfl
  | m + 1, hm => by
    have ih := coverL_points h k m (by omega)
    have hd : m < (s.ss.drop k).length := by rw [List.length_drop]; omega
    have hg : (s.ss.drop k).getD m default = s.ss.getD (k + m) default := by
      rw [List.getD_eq_getElem?_getD, List.getD_eq_getElem?_getD, List.getElem?_drop]
    funext y x
    unfold coverL
    rw [points_append, ih]
    unfold Grid.and
    rw [hideG_succ hd, hg]
    unfold hides
    by_cases ho : isOpaqueS (s.ss.getD (k + m) default)
    · rw [if_pos ho, points_one, decide_eq_true ho, Bool.true_and, Bool.and_or_distrib_right]
      unfold rectG scrG
      rw [inter_holds (scrR_ok h)]; rfl
    · rw [if_neg ho, points_nil, decide_eq_false ho, Bool.false_and, Bool.or_false, Bool.or_false]
theorem coverL_all {s : DScene} (h : s.ok) (k : Nat) (hk : k ≤ s.ss.length) : points (coverL s k (s.ss.length - k)) = coverG s k := by
  rw [coverL_points h k _ (by omega), coverG_hide s k (m := s.ss.length - k) (by rw [List.length_drop]; omega)]
theorem visibleOf_join {s : DScene} (h : s.ok) {k : Nat} (hk : k < s.ss.length) : withoutOf (canon (points [(surfRect (s.ss.getD k default)).inter (scrR s)])) (coverOf s k) = visibleOf s k := by
  unfold withoutOf visibleOf
  rw [if_pos ⟨regionOk_canon _, coverOf_ok s k⟩, if_pos ⟨h, by omega⟩]
  refine canon_congr (fun y x hy hx => ?_)
  unfold seenG Grid.without
  rw [points_canon _ y x hy hx, points_one]
  unfold coverOf
  rw [if_pos ⟨h, by omega⟩, points_canon _ y x hy hx, show ((k : Int) + 1).toNat = k + 1 by omega]
  show ((rectG ((surfRect (s.ss.getD k default)).inter (scrR s)) y x) && _) = _
  unfold rectG
  rw [inter_holds (scrR_ok h), show ((k : Int)).toNat = k from rfl]
  rfl
end Sx
/-
  Contracts: the laws' own helpers on regions.
-/
set_option linter.unusedVariables false
namespace Go.Proofs.YtfmjeakcfmmkfaaGreat
open Go Sx
attribute [local irreducible] Exit.then Exit.inBlock bodyPost
theorem c_eqRectS (u v : Value) (k l : List DRect) (W : World) (hu : RRects W u k) (hv : RRects W v l) : SYields Tryz.prog 114 #[u, v] (.bool (decide (k = l))) W := by
  have hkl := hu.len
  have hll := hv.len
  (first | apply SYields.mk | apply SYieldsF.mk | skip); refine s_enter Tryz.func114 rfl Tryz.ntmps114 rfl ?_
  repeat' (first | exact rfl | (apply kO; (first | exact ov_pure rfl | (apply kOBin; (first | exact aBin)) | (apply kOCall; (first | (apply kCallF; (first | exact (ov_call rfl (fun w hw => c_eqRect _ _ w)))) | (apply kCallB; (first | exact aBlt | exact (ov_lenR (fun w hw => RRow.keep hu (hw.cells rfl)) rfl) | exact (ov_lenR (fun w hw => RRow.keep hv (hw.cells rfl)) rfl) | exact aLenR)))) | (apply kOLoad; (first | exact (ov_ldRZ (fun w hw => RRow.keep hu (hw.cells rfl)) rfl rfl (by omega) rfl) | exact (ov_ldRZ (fun w hw => RRow.keep hv (hw.cells rfl)) rfl rfl (by omega) rfl) | exact aLdF | exact aLdR)) | exact ov_fieldAddr rfl | (apply kOIdx; (first | exact (ov_idxR (fun w hw => RRow.keep hu (hw.cells rfl)) rfl rfl (by omega)) | exact (ov_idxR (fun w hw => RRow.keep hv (hw.cells rfl)) rfl rfl (by omega)) | exact aIdx)) | exact aRest | exact aNew | exact (ov_field1 (ft := 31) rfl rfl rfl rfl))) | (refine kN ?_; (first | (refine kStore ?_; (first | refine s_store1 _ rfl rfl gpA rfl (by rfl) ?_ | refine s_storeS _ rfl rfl gpA rfl rfl (by rfl) ?_ | refine s_storeS _ rfl rfl gpA rfl (ones_img oiA) (by rfl) ?_)) | refine s_boxS rfl rfl (fun b hb => ?_) | refine s_allocS rfl (fun b hb => ?_) | refine s_box1 rfl rfl rfl (fun b hb => ?_) | refine s_alloc1 rfl rfl (fun b hb => ?_) | refine s_buildSlice0 rfl (fun b hb => ?_) | refine s_buildSlice rfl rfl rfl rfl rfl (fun b hb => ?_) | apply s_step)) | (refine kG ?_; (first | refine s_gyes rfl rfl rfl ?_ | refine s_gno rfl rfl rfl rfl rfl ?_ | ((first | refine s_split_d rfl rfl (fun h => ?_) (fun h => ?_) | refine s_split_n rfl rfl (fun h => ?_) (fun h => ?_)) <;> (try (first | contradiction | (exfalso; omega)))) | refine s_split_nb rfl rfl (fun h => ?_) (fun h => ?_) | refine s_split rfl rfl (fun h => ?_) (fun h => ?_))) | refine l_then ?_ | (refine kC ?_; (first | (refine c_loopV (ι := Nat) (fun j => j ≤ k.length ∧ eqTo k l DRect.zero j) (fun j => [(5, .int .i64 (j : Int))]) (fun _ => []) (fun j => k.length - j) 0 ⟨by omega, eqTo_zero _ _ _⟩ rfl (fun _ => rfl) ⟨rfl, trivial⟩ (fun w hw => hw) (fun j hj => ?_)) | refine c_seq ?_ | refine c_regionN rfl ?_ | refine c_ret ?_ | (refine kCond ?_; (first | refine c_cond_t rfl ?_ | refine c_cond_f rfl ?_ | ((first | refine c_cond_d rfl (fun h => ?_) (fun h => ?_) | refine c_cond_n rfl (fun h => ?_) (fun h => ?_)) <;> (try (first | contradiction | (exfalso; omega)))) | refine c_cond_nb rfl (fun h => ?_) (fun h => ?_) | refine c_cond rfl (fun h => ?_) (fun h => ?_))) | refine c_block ?_ | refine c_skip ?_ | refine c_exit ?_ | refine c_regionQN rfl rfl (by decide +kernel) ?_)) | apply s_stepQ | (refine kQG ?_; (first | refine s_gyesQ rfl rfl rfl ?_ | refine s_gnoQ rfl rfl rfl rfl rfl ?_ | ((first | refine s_splitQ_d rfl rfl (fun h => ?_) (fun h => ?_) | refine s_splitQ_n rfl rfl (fun h => ?_) (fun h => ?_)) <;> (try (first | contradiction | (exfalso; omega)))) | refine s_splitQ_nb rfl rfl (fun h => ?_) (fun h => ?_) | refine s_splitQ rfl rfl (fun h => ?_) (fun h => ?_))) | refine lQ_then ?_ | refine lQ_ends ?_ | (refine kE ?_; (first | refine e_then_r ?_ | refine e_block_r ?_ | refine e_then_n ?_ | refine e_then_x ?_ | refine e_block_n ?_ | refine e_block_x ?_ | refine e_block_y rfl ?_)) | refine l_ends ?_)
  all_goals try simp only [Int.toNat_natCast] at *
  all_goals first
    | exact s_leave1 rfl rfl (fun w hw => ⟨ret_false (ne_of_len (by omega)), hw.below⟩)
    | exact s_leave1 rfl rfl (fun w hw => ⟨ret_false (fun e => by subst e; contradiction), hw.below⟩)
    | exact e_round (j + 1) ⟨by omega, eqTo_next hj.2 (by assumption)⟩ ⟨rfl, (by repeat' first | exact trivial | refine ⟨rfl, ?_⟩)⟩ (fun w hw => hw) (by omega)
    | exact s_leave1 rfl rfl (fun w hw => ⟨ret_true (list_eq_of_getD DRect.zero (by omega) (fun i hi => hj.2 i (by omega))), hw.below⟩)
theorem c_eqRegion (u v : Value) (k l : List DRect) (W : World) (hu : RRects W u k) (hv : RRects W v l) : SYields Tryz.prog 46 #[vReg u, vReg v] (.bool (decide (k = l))) W := by
  (first | apply SYields.mk | apply SYieldsF.mk | skip); refine s_enter Tryz.func46 rfl Tryz.ntmps46 rfl ?_
  repeat' (first | exact rfl | (apply kO; (first | exact ov_pure rfl | (apply kOBin; (first | exact aBin)) | (apply kOCall; (first | (apply kCallF; (first | exact (ov_call rfl (fun w hw => c_eqRectS _ _ _ _ w (RVs.keep hu (hw.cells rfl)) (RVs.keep hv (hw.cells rfl)))))) | (apply kCallB; (first | exact aBlt | exact aLenR)))) | (apply kOLoad; (first | exact aLdF | exact aLdR)) | exact ov_fieldAddr rfl | (apply kOIdx; (first | exact aIdx)) | exact aRest | exact aNew | exact (ov_field1 (ft := 31) rfl rfl rfl rfl))) | (refine kN ?_; (first | (refine kStore ?_; (first | refine s_store1 _ rfl rfl gpA rfl (by rfl) ?_ | refine s_storeS _ rfl rfl gpA rfl rfl (by rfl) ?_ | refine s_storeS _ rfl rfl gpA rfl (ones_img oiA) (by rfl) ?_)) | refine s_boxS rfl rfl (fun b hb => ?_) | refine s_allocS rfl (fun b hb => ?_) | refine s_box1 rfl rfl rfl (fun b hb => ?_) | refine s_alloc1 rfl rfl (fun b hb => ?_) | refine s_buildSlice0 rfl (fun b hb => ?_) | refine s_buildSlice rfl rfl rfl rfl rfl (fun b hb => ?_) | apply s_step)) | (refine kG ?_; (first | refine s_gyes rfl rfl rfl ?_ | refine s_gno rfl rfl rfl rfl rfl ?_ | ((first | refine s_split_d rfl rfl (fun h => ?_) (fun h => ?_) | refine s_split_n rfl rfl (fun h => ?_) (fun h => ?_)) <;> (try (first | contradiction | (exfalso; omega)))) | refine s_split_nb rfl rfl (fun h => ?_) (fun h => ?_) | refine s_split rfl rfl (fun h => ?_) (fun h => ?_))) | refine l_then ?_ | (refine kC ?_; (first | refine c_seq ?_ | refine c_regionN rfl ?_ | refine c_ret ?_ | (refine kCond ?_; (first | refine c_cond_t rfl ?_ | refine c_cond_f rfl ?_ | ((first | refine c_cond_d rfl (fun h => ?_) (fun h => ?_) | refine c_cond_n rfl (fun h => ?_) (fun h => ?_)) <;> (try (first | contradiction | (exfalso; omega)))) | refine c_cond_nb rfl (fun h => ?_) (fun h => ?_) | refine c_cond rfl (fun h => ?_) (fun h => ?_))) | refine c_block ?_ | refine c_skip ?_ | refine c_exit ?_ | refine c_regionQN rfl rfl (by decide +kernel) ?_)) | apply s_stepQ | (refine kQG ?_; (first | refine s_gyesQ rfl rfl rfl ?_ | refine s_gnoQ rfl rfl rfl rfl rfl ?_ | ((first | refine s_splitQ_d rfl rfl (fun h => ?_) (fun h => ?_) | refine s_splitQ_n rfl rfl (fun h => ?_) (fun h => ?_)) <;> (try (first | contradiction | (exfalso; omega)))) | refine s_splitQ_nb rfl rfl (fun h => ?_) (fun h => ?_) | refine s_splitQ rfl rfl (fun h => ?_) (fun h => ?_))) | refine lQ_then ?_ | refine lQ_ends ?_ | (refine kE ?_; (first | refine e_then_r ?_ | refine e_block_r ?_ | refine e_then_n ?_ | refine e_then_x ?_ | refine e_block_n ?_ | refine e_block_x ?_ | refine e_block_y rfl ?_)) | refine l_ends ?_)
  all_goals refine s_leave1 rfl rfl (fun w hw => ⟨?_, hw.below⟩)
  all_goals first | exact ret_false (fun e => by subst e; contradiction) | exact ret_true (by assumption)
theorem c_heldRectS (v : Value) (k : Int) (m : Nat) (W : World) (hv : RRects W v (iotaR k m)) (hk : 0 ≤ k ∧ k + 4 * m ≤ 4611686018427387904) : SYields Tryz.prog 127 #[v, .int .i64 k] (.int .i64 (k + 4 * m)) W := by
  have hl := hv.len
  rw [iotaR_length] at hl
  have hv' : RRow W v 4 m (fun i => [.int .i64 (k + 4 * (i : Int)), .int .i64 (k + 4 * (i : Int) + 1), .int .i64 (k + 4 * (i : Int) + 2), .int .i64 (k + 4 * (i : Int) + 3)]) := RRow.congr hv (iotaR_length k m).symm (fun i hi => by rw [iotaR_get k (by rw [iotaR_length] at hi; exact hi)])
  (first | apply SYields.mk | apply SYieldsF.mk | skip); refine s_enter Tryz.func127 rfl Tryz.ntmps127 rfl ?_
  repeat' (first | exact rfl | (apply kO; (first | exact ov_pure rfl | (apply kOBin; (first | exact aBin | exact (ov_add rfl rfl (by omega)))) | (apply kOCall; (first | (apply kCallB; (first | exact aBlt | exact (ov_lenR (fun w hw => RRow.keep hv' (hw.cells rfl)) rfl) | exact aLenR)))) | (apply kOLoad; (first | exact (ov_ldR (fun w hw => RRow.keep hv' (hw.cells rfl)) rfl rfl (by omega) rfl) | exact aLdF | exact aLdR)) | exact ov_fieldAddr rfl | (apply kOIdx; (first | exact (ov_idxR (fun w hw => RRow.keep hv' (hw.cells rfl)) rfl rfl (by omega)) | exact aIdx)) | exact aRest | exact aNew | exact (ov_field1 (ft := 31) rfl rfl rfl rfl))) | (refine kN ?_; (first | (refine kStore ?_; (first | refine s_store1 _ rfl rfl gpA rfl (by rfl) ?_ | refine s_storeS _ rfl rfl gpA rfl rfl (by rfl) ?_ | refine s_storeS _ rfl rfl gpA rfl (ones_img oiA) (by rfl) ?_)) | refine s_boxS rfl rfl (fun b hb => ?_) | refine s_allocS rfl (fun b hb => ?_) | refine s_box1 rfl rfl rfl (fun b hb => ?_) | refine s_alloc1 rfl rfl (fun b hb => ?_) | refine s_buildSlice0 rfl (fun b hb => ?_) | refine s_buildSlice rfl rfl rfl rfl rfl (fun b hb => ?_) | apply s_step)) | (refine kG ?_; (first | refine s_gyes rfl rfl rfl ?_ | refine s_gno rfl rfl rfl rfl rfl ?_ | ((first | refine s_split_d rfl rfl (fun h => ?_) (fun h => ?_) | refine s_split_n rfl rfl (fun h => ?_) (fun h => ?_)) <;> (try (first | contradiction | (exfalso; omega) | (exfalso; (exfalso; omega))))) | refine s_split_nb rfl rfl (fun h => ?_) (fun h => ?_) | refine s_split rfl rfl (fun h => ?_) (fun h => ?_))) | refine l_then ?_ | (refine kC ?_; (first | (refine c_loopV (ι := Nat) (fun j => j ≤ m) (fun j => [(1, .int .i64 (k + 4 * j)), (5, .int .i64 (j : Int))]) (fun _ => []) (fun j => m - j) 0 (by omega) rfl (fun _ => rfl) ⟨slook_to rfl (vint_to (by simp)), rfl, trivial⟩ (fun w hw => hw) (fun j hj => ?_)) | refine c_seq ?_ | refine c_regionN rfl ?_ | refine c_ret ?_ | (refine kCond ?_; (first | refine c_cond_t rfl ?_ | refine c_cond_f rfl ?_ | ((first | refine c_cond_d rfl (fun h => ?_) (fun h => ?_) | refine c_cond_n rfl (fun h => ?_) (fun h => ?_)) <;> (try (first | contradiction | (exfalso; omega) | (exfalso; (exfalso; omega))))) | refine c_cond_nb rfl (fun h => ?_) (fun h => ?_) | refine c_cond rfl (fun h => ?_) (fun h => ?_))) | refine c_block ?_ | refine c_skip ?_ | refine c_exit ?_ | refine c_regionQN rfl rfl (by decide +kernel) ?_)) | apply s_stepQ | (refine kQG ?_; (first | refine s_gyesQ rfl rfl rfl ?_ | refine s_gnoQ rfl rfl rfl rfl rfl ?_ | ((first | refine s_splitQ_d rfl rfl (fun h => ?_) (fun h => ?_) | refine s_splitQ_n rfl rfl (fun h => ?_) (fun h => ?_)) <;> (try (first | contradiction | (exfalso; omega) | (exfalso; (exfalso; omega))))) | refine s_splitQ_nb rfl rfl (fun h => ?_) (fun h => ?_) | refine s_splitQ rfl rfl (fun h => ?_) (fun h => ?_))) | refine lQ_then ?_ | refine lQ_ends ?_ | (refine kE ?_; (first | refine e_then_r ?_ | refine e_block_r ?_ | refine e_then_n ?_ | refine e_then_x ?_ | refine e_block_n ?_ | refine e_block_x ?_ | refine e_block_y rfl ?_)) | refine l_ends ?_)
  all_goals first
    | exact e_round (j + 1) (by omega) ⟨slook_to rfl (vint_to (by push_cast; omega)), slook_to rfl (vint_to (by push_cast; rfl)), (by repeat' first | exact trivial | refine ⟨rfl, ?_⟩)⟩ (fun w hw => hw) (by omega)
    | exact s_leave1 rfl rfl (fun w hw => ⟨ret_int (by rw [show j = m by omega]), hw.below⟩)
theorem c_heldRegion (v : Value) (k : Int) (m : Nat) (W : World) (hv : RRects W v (iotaR k m)) (hk : 0 ≤ k ∧ k + 4 * m ≤ 4611686018427387904) : SYields Tryz.prog 53 #[vReg v, .int .i64 k] (.int .i64 (k + 4 * m)) W := by
  (first | apply SYields.mk | apply SYieldsF.mk | skip); refine s_enter Tryz.func53 rfl Tryz.ntmps53 rfl ?_
  repeat' (first | exact rfl | (apply kO; (first | exact ov_pure rfl | (apply kOBin; (first | exact aBin)) | (apply kOCall; (first | (apply kCallF; (first | exact (ov_call rfl (fun w hw => c_heldRectS _ _ m w (RVs.keep hv (hw.cells rfl)) hk)))) | (apply kCallB; (first | exact aBlt | exact aLenR)))) | (apply kOLoad; (first | exact aLdF | exact aLdR)) | exact ov_fieldAddr rfl | (apply kOIdx; (first | exact aIdx)) | exact aRest | exact aNew | exact (ov_field1 (ft := 31) rfl rfl rfl rfl))) | (refine kN ?_; (first | (refine kStore ?_; (first | refine s_store1 _ rfl rfl gpA rfl (by rfl) ?_ | refine s_storeS _ rfl rfl gpA rfl rfl (by rfl) ?_ | refine s_storeS _ rfl rfl gpA rfl (ones_img oiA) (by rfl) ?_)) | refine s_boxS rfl rfl (fun b hb => ?_) | refine s_allocS rfl (fun b hb => ?_) | refine s_box1 rfl rfl rfl (fun b hb => ?_) | refine s_alloc1 rfl rfl (fun b hb => ?_) | refine s_buildSlice0 rfl (fun b hb => ?_) | refine s_buildSlice rfl rfl rfl rfl rfl (fun b hb => ?_) | apply s_step)) | (refine kG ?_; (first | refine s_gyes rfl rfl rfl ?_ | refine s_gno rfl rfl rfl rfl rfl ?_ | ((first | refine s_split_d rfl rfl (fun h => ?_) (fun h => ?_) | refine s_split_n rfl rfl (fun h => ?_) (fun h => ?_)) <;> (try (first | contradiction | (exfalso; omega) | (exfalso; (exfalso; omega))))) | refine s_split_nb rfl rfl (fun h => ?_) (fun h => ?_) | refine s_split rfl rfl (fun h => ?_) (fun h => ?_))) | refine l_then ?_ | (refine kC ?_; (first | refine c_seq ?_ | refine c_regionN rfl ?_ | refine c_ret ?_ | (refine kCond ?_; (first | refine c_cond_t rfl ?_ | refine c_cond_f rfl ?_ | ((first | refine c_cond_d rfl (fun h => ?_) (fun h => ?_) | refine c_cond_n rfl (fun h => ?_) (fun h => ?_)) <;> (try (first | contradiction | (exfalso; omega) | (exfalso; (exfalso; omega))))) | refine c_cond_nb rfl (fun h => ?_) (fun h => ?_) | refine c_cond rfl (fun h => ?_) (fun h => ?_))) | refine c_block ?_ | refine c_skip ?_ | refine c_exit ?_ | refine c_regionQN rfl rfl (by decide +kernel) ?_)) | apply s_stepQ | (refine kQG ?_; (first | refine s_gyesQ rfl rfl rfl ?_ | refine s_gnoQ rfl rfl rfl rfl rfl ?_ | ((first | refine s_splitQ_d rfl rfl (fun h => ?_) (fun h => ?_) | refine s_splitQ_n rfl rfl (fun h => ?_) (fun h => ?_)) <;> (try (first | contradiction | (exfalso; omega) | (exfalso; (exfalso; omega))))) | refine s_splitQ_nb rfl rfl (fun h => ?_) (fun h => ?_) | refine s_splitQ rfl rfl (fun h => ?_) (fun h => ?_))) | refine lQ_then ?_ | refine lQ_ends ?_ | (refine kE ?_; (first | refine e_then_r ?_ | refine e_block_r ?_ | refine e_then_n ?_ | refine e_then_x ?_ | refine e_block_n ?_ | refine e_block_x ?_ | refine e_block_y rfl ?_)) | refine l_ends ?_)
  all_goals refine s_leave1 rfl rfl (fun w hw => ⟨?_, hw.below⟩)
  all_goals rfl
theorem set4 {P R : List Value} {a c e f a' c' e' f' : Value} {p : Nat} (hp : p = P.length) : ((((P ++ (a :: c :: e :: f :: R)).set p a').set (p + 1) c').set (p + 2) e').set (p + 3) f' = P ++ (a' :: c' :: e' :: f' :: R) := by
  subst hp
  rw [List.set_append_right _ _ (Nat.le_refl _), List.set_append_right _ _ (by omega), List.set_append_right _ _ (by omega), List.set_append_right _ _ (by omega)]
  rw [Nat.sub_self, show P.length + 1 - P.length = 1 by omega, show P.length + 2 - P.length = 2 by omega, show P.length + 3 - P.length = 3 by omega]
  rfl
/-- the cells of rectangles of which the first j are marked -/
def markRTo (l : List DRect) (k : Int) (j : Nat) : List DRect := iotaR k j ++ l.drop j
theorem markRTo_zero (l : List DRect) (k : Int) : markRTo l k 0 = l := by simp [markRTo, iotaR]
theorem markRTo_all (l : List DRect) (k : Int) : markRTo l k l.length = iotaR k l.length := by simp [markRTo]
theorem markRTo_length (l : List DRect) (k : Int) {j : Nat} (h : j ≤ l.length) : (markRTo l k j).length = l.length := by simp [markRTo, iotaR_length]; omega
theorem rcells_length (l : List DRect) : (l.flatMap cRect).length = l.length * 4 := flatMap_length (c := cRect) (k := 4) (fun _ => rfl) l
theorem markRTo_set (l : List DRect) (k : Int) (r : List Value) {j : Nat} (h : j < l.length) :
    ((((((markRTo l k j).flatMap cRect ++ r).set (j * 4) (.int .i64 (k + 4 * j))).set (j * 4 + 1) (.int .i64 (k + 4 * j + 1))).set (j * 4 + 2) (.int .i64 (k + 4 * j + 1 + 1))).set (j * 4 + 3) (.int .i64 (k + 4 * j + 1 + 1 + 1))) = (markRTo l k (j + 1)).flatMap cRect ++ r := by
  rw [show k + 4 * (j : Int) + 1 + 1 + 1 = k + 4 * j + 3 by omega, show k + 4 * (j : Int) + 1 + 1 = k + 4 * j + 2 by omega]
  unfold markRTo
  rw [List.drop_eq_getElem_cons h, iotaR_succ, List.flatMap_append, List.flatMap_append, List.flatMap_append, List.flatMap_cons, List.append_assoc, List.append_assoc]
  show (((((iotaR k j).flatMap cRect ++ (_ :: _ :: _ :: _ :: _)).set _ _).set _ _).set _ _).set _ _ = _
  rw [set4 (by rw [rcells_length, iotaR_length])]
  simp
set_option maxHeartbeats 2000000 in
theorem c_markRectS (v : Value) (l : List DRect) (H : SPiece) (k : Int) (w : World) (hv : ORects v l H) (hH : Holds w H) (hn : H.keys.Nodup) (hk : 0 ≤ k ∧ k + 4 * l.length ≤ 4611686018427387904) :
    SYieldsG Tryz.prog 115 #[v, .int .i64 k] H (fun u H' F => u = .int .i64 (k + 4 * l.length) ∧ ORects v (iotaR k l.length) H' ∧ F = []) w := by
  have hlen := hv.len
  unfold maxLen at hlen
  have hil := iotaR_length k l.length
  have hrl := rcells_length
  have hml := fun j (h : j ≤ l.length) => markRTo_length l k h
  unfold ORects OVs at hv
  generalize hx : l.flatMap cRect = xs at hv
  generalize hnn : l.length = nn at hv
  cases hv with
  | nil =>
    have hl0 : l = [] := List.eq_nil_of_length_eq_zero hnn
    subst hl0
    refine SYieldsG.mk (s_enterM Tryz.func115 rfl Tryz.ntmps115 rfl hH hn ?_)
    repeat' (first | exact rfl | (apply kO; (first | exact ov_pure rfl | (apply kOBin; (first | exact aBin)) | (apply kOCall; (first | (apply kCallB; (first | exact aBlt | exact aLenR)))) | (apply kOLoad; (first | exact aLdF | exact aLdR)) | exact ov_fieldAddr rfl | (apply kOIdx; (first | exact aIdx)) | exact aRest | exact aNew | exact (ov_field1 (ft := 31) rfl rfl rfl rfl))) | (refine kN ?_; (first | (refine kStore ?_; (first | refine s_store1 _ rfl rfl gpA rfl (by rfl) ?_ | refine s_storeS _ rfl rfl gpA rfl rfl (by rfl) ?_ | refine s_storeS _ rfl rfl gpA rfl (ones_img oiA) (by rfl) ?_)) | refine s_boxS rfl rfl (fun b hb => ?_) | refine s_allocS rfl (fun b hb => ?_) | refine s_box1 rfl rfl rfl (fun b hb => ?_) | refine s_alloc1 rfl rfl (fun b hb => ?_) | refine s_buildSlice0 rfl (fun b hb => ?_) | refine s_buildSlice rfl rfl rfl rfl rfl (fun b hb => ?_) | apply s_step)) | (refine kG ?_; (first | refine s_gyes rfl rfl rfl ?_ | refine s_gno rfl rfl rfl rfl rfl ?_ | ((first | refine s_split_d rfl rfl (fun h => ?_) (fun h => ?_) | refine s_split_n rfl rfl (fun h => ?_) (fun h => ?_)) <;> (try (first | contradiction | (exfalso; omega)))) | refine s_split_nb rfl rfl (fun h => ?_) (fun h => ?_) | refine s_split rfl rfl (fun h => ?_) (fun h => ?_))) | refine l_then ?_ | (refine kC ?_; (first | (refine c_loopV (ι := Unit) (fun _ => True) (fun _ => [(1, .int .i64 k), (5, .int .i64 0)]) (fun _ => [[]]) (fun _ => 0) () trivial rfl (fun _ => rfl) (by repeat' first | exact trivial | refine ⟨rfl, ?_⟩) (fun w hw => by simpa using hw) (fun j hj => ?_)) | refine c_seq ?_ | refine c_regionN rfl ?_ | refine c_ret ?_ | (refine kCond ?_; (first | refine c_cond_t rfl ?_ | refine c_cond_f rfl ?_ | ((first | refine c_cond_d rfl (fun h => ?_) (fun h => ?_) | refine c_cond_n rfl (fun h => ?_) (fun h => ?_)) <;> (try (first | contradiction | (exfalso; omega)))) | refine c_cond_nb rfl (fun h => ?_) (fun h => ?_) | refine c_cond rfl (fun h => ?_) (fun h => ?_))) | refine c_block ?_ | refine c_skip ?_ | refine c_exit ?_ | refine c_regionQN rfl rfl (by decide +kernel) ?_)) | apply s_stepQ | (refine kQG ?_; (first | refine s_gyesQ rfl rfl rfl ?_ | refine s_gnoQ rfl rfl rfl rfl rfl ?_ | ((first | refine s_splitQ_d rfl rfl (fun h => ?_) (fun h => ?_) | refine s_splitQ_n rfl rfl (fun h => ?_) (fun h => ?_)) <;> (try (first | contradiction | (exfalso; omega)))) | refine s_splitQ_nb rfl rfl (fun h => ?_) (fun h => ?_) | refine s_splitQ rfl rfl (fun h => ?_) (fun h => ?_))) | refine lQ_then ?_ | refine lQ_ends ?_ | (refine kE ?_; (first | refine e_then_r ?_ | refine e_block_r ?_ | refine e_then_n ?_ | refine e_then_x ?_ | refine e_block_n ?_ | refine e_block_x ?_ | refine e_block_y rfl ?_)) | refine l_ends ?_)
    · exact s_leave1 rfl rfl (fun w hw => ⟨_, _, _, rfl, ⟨by simp, OVs.nil, rfl⟩, SSt.lone hw⟩)
  | blk b n cap xs r h1 h2 h3 h4 =>
    subst hx
    subst hnn
    refine SYieldsG.mk (s_enterM Tryz.func115 rfl Tryz.ntmps115 rfl hH hn ?_)
    repeat' (first | exact rfl | (apply kO; (first | exact ov_pure rfl | (apply kOBin; (first | exact aBin | exact (ov_add rfl rfl (by omega)))) | (apply kOCall; (first | (apply kCallB; (first | exact aBlt | exact aLenR)))) | (apply kOLoad; (first | exact aLdF | exact aLdR)) | exact ov_fieldAddr rfl | (apply kOIdx; (first | exact (ov_indexAddr rfl rfl (by omega)) | exact aIdx)) | exact aRest | exact aNew | exact (ov_field1 (ft := 31) rfl rfl rfl rfl))) | (refine kN ?_; (first | (refine kStore ?_; (first | (refine s_setR 0 rfl rfl rfl rfl (by (try simp only [List.length_set]); rw [List.length_append, hrl, hml j hj]; omega) ?_) | refine s_store1 _ rfl rfl gpA rfl (by rfl) ?_ | refine s_storeS _ rfl rfl gpA rfl rfl (by rfl) ?_ | refine s_storeS _ rfl rfl gpA rfl (ones_img oiA) (by rfl) ?_)) | refine s_boxS rfl rfl (fun b hb => ?_) | refine s_allocS rfl (fun b hb => ?_) | refine s_box1 rfl rfl rfl (fun b hb => ?_) | refine s_alloc1 rfl rfl (fun b hb => ?_) | refine s_buildSlice0 rfl (fun b hb => ?_) | refine s_buildSlice rfl rfl rfl rfl rfl (fun b hb => ?_) | apply s_step)) | (refine kG ?_; (first | refine s_gyes rfl rfl rfl ?_ | refine s_gno rfl rfl rfl rfl rfl ?_ | ((first | refine s_split_d rfl rfl (fun h => ?_) (fun h => ?_) | refine s_split_n rfl rfl (fun h => ?_) (fun h => ?_)) <;> (try (first | contradiction | (exfalso; omega)))) | refine s_split_nb rfl rfl (fun h => ?_) (fun h => ?_) | refine s_split rfl rfl (fun h => ?_) (fun h => ?_))) | refine l_then ?_ | (refine kC ?_; (first | (refine c_loopV (ι := Nat) (fun j => j ≤ l.length) (fun j => [(1, .int .i64 (k + 4 * j)), (5, .int .i64 (j : Int))]) (fun j => [[(b, srow ((markRTo l k j).flatMap cRect ++ r) 123)]]) (fun j => l.length - j) 0 (by omega) rfl (fun _ => rfl) ⟨slook_to rfl (vint_to (by simp)), rfl, trivial⟩ (fun w hw => by rw [markRTo_zero]; simpa using hw) (fun j hj => ?_)) | refine c_seq ?_ | refine c_regionN rfl ?_ | refine c_ret ?_ | (refine kCond ?_; (first | refine c_cond_t rfl ?_ | refine c_cond_f rfl ?_ | ((first | refine c_cond_d rfl (fun h => ?_) (fun h => ?_) | refine c_cond_n rfl (fun h => ?_) (fun h => ?_)) <;> (try (first | contradiction | (exfalso; omega)))) | refine c_cond_nb rfl (fun h => ?_) (fun h => ?_) | refine c_cond rfl (fun h => ?_) (fun h => ?_))) | refine c_block ?_ | refine c_skip ?_ | refine c_exit ?_ | refine c_regionQN rfl rfl (by decide +kernel) ?_)) | apply s_stepQ | (refine kQG ?_; (first | refine s_gyesQ rfl rfl rfl ?_ | refine s_gnoQ rfl rfl rfl rfl rfl ?_ | ((first | refine s_splitQ_d rfl rfl (fun h => ?_) (fun h => ?_) | refine s_splitQ_n rfl rfl (fun h => ?_) (fun h => ?_)) <;> (try (first | contradiction | (exfalso; omega)))) | refine s_splitQ_nb rfl rfl (fun h => ?_) (fun h => ?_) | refine s_splitQ rfl rfl (fun h => ?_) (fun h => ?_))) | refine lQ_then ?_ | refine lQ_ends ?_ | (refine kE ?_; (first | refine e_then_r ?_ | refine e_block_r ?_ | refine e_then_n ?_ | refine e_then_x ?_ | refine e_block_n ?_ | refine e_block_x ?_ | refine e_block_y rfl ?_)) | refine l_ends ?_)
    · refine e_round (j + 1) (by omega) ⟨slook_to rfl (vint_to (by push_cast; omega)), rfl, (by repeat' first | exact trivial | refine ⟨rfl, ?_⟩)⟩ (fun w hw => ?_) (by omega)
      rw [← markRTo_set l k r (by omega)]
      simp only [Nat.zero_add, Int.toNat_natCast, Nat.add_zero, Nat.mul_one] at hw ⊢
      exact hw
    · obtain rfl : j = l.length := by omega
      rw [markRTo_all]
      refine s_leave1 rfl rfl (fun w hw => ⟨_, _, _, rfl, ⟨rfl, ?_, rfl⟩, SSt.lone hw⟩)
      have := OVec.blk (k := 4) (T := 123) b l.length cap ((iotaR k l.length).flatMap cRect) r (by rw [hrl, hil]) (by rw [List.length_append, hrl] at h2 ⊢; rw [hil]; exact h2) h3 h4
      unfold ORects OVs
      rw [hil]; exact this
theorem c_markRegion (v : Value) (l : List DRect) (H : SPiece) (k : Int) (w : World) (hv : ORects v l H) (hH : Holds w H) (hn : H.keys.Nodup) (hk : 0 ≤ k ∧ k + 4 * l.length ≤ 4611686018427387904) :
    SYieldsG Tryz.prog 47 #[vReg v, .int .i64 k] H (fun u H' F => u = .int .i64 (k + 4 * l.length) ∧ ORects v (iotaR k l.length) H' ∧ F = []) w := by
  refine SYieldsG.mk (s_enterM Tryz.func47 rfl Tryz.ntmps47 rfl hH hn ?_)
  repeat' (first | exact rfl | (apply kO; (first | exact ov_pure rfl | (apply kOBin; (first | exact aBin)) | (apply kOCall; (first | (apply kCallB; (first | exact aBlt | exact aLenR)))) | (apply kOLoad; (first | exact aLdF | exact aLdR)) | exact ov_fieldAddr rfl | (apply kOIdx; (first | exact aIdx)) | exact aRest | exact aNew | exact (ov_field1 (ft := 31) rfl rfl rfl rfl))) | (refine kN ?_; (first | (refine kCall ?_; (first | (refine kWFn 115 ?_; (refine s_callG _ (H := H) (fun u H' F => u = .int .i64 (k + 4 * l.length) ∧ ORects v (iotaR k l.length) H' ∧ F = []) rfl gpA (fun w hw hh hn => c_markRectS v l H k w hv hh hn hk) rfl (fun u H' F hu => ?_); obtain ⟨rfl, hu, rfl⟩ := hu)) | apply s_step)) | (refine kStore ?_; (first | refine s_store1 _ rfl rfl gpA rfl (by rfl) ?_ | refine s_storeS _ rfl rfl gpA rfl rfl (by rfl) ?_ | refine s_storeS _ rfl rfl gpA rfl (ones_img oiA) (by rfl) ?_)) | refine s_boxS rfl rfl (fun b hb => ?_) | refine s_allocS rfl (fun b hb => ?_) | refine s_box1 rfl rfl rfl (fun b hb => ?_) | refine s_alloc1 rfl rfl (fun b hb => ?_) | refine s_buildSlice0 rfl (fun b hb => ?_) | refine s_buildSlice rfl rfl rfl rfl rfl (fun b hb => ?_) | apply s_step)) | (refine kG ?_; (first | refine s_gyes rfl rfl rfl ?_ | refine s_gno rfl rfl rfl rfl rfl ?_ | ((first | refine s_split_d rfl rfl (fun h => ?_) (fun h => ?_) | refine s_split_n rfl rfl (fun h => ?_) (fun h => ?_)) <;> (try (first | contradiction | (exfalso; omega)))) | refine s_split_nb rfl rfl (fun h => ?_) (fun h => ?_) | refine s_split rfl rfl (fun h => ?_) (fun h => ?_))) | refine l_then ?_ | (refine kC ?_; (first | refine c_seq ?_ | refine c_regionN rfl ?_ | refine c_ret ?_ | (refine kCond ?_; (first | refine c_cond_t rfl ?_ | refine c_cond_f rfl ?_ | ((first | refine c_cond_d rfl (fun h => ?_) (fun h => ?_) | refine c_cond_n rfl (fun h => ?_) (fun h => ?_)) <;> (try (first | contradiction | (exfalso; omega)))) | refine c_cond_nb rfl (fun h => ?_) (fun h => ?_) | refine c_cond rfl (fun h => ?_) (fun h => ?_))) | refine c_block ?_ | refine c_skip ?_ | refine c_exit ?_ | refine c_regionQN rfl rfl (by decide +kernel) ?_)) | apply s_stepQ | (refine kQG ?_; (first | refine s_gyesQ rfl rfl rfl ?_ | refine s_gnoQ rfl rfl rfl rfl rfl ?_ | ((first | refine s_splitQ_d rfl rfl (fun h => ?_) (fun h => ?_) | refine s_splitQ_n rfl rfl (fun h => ?_) (fun h => ?_)) <;> (try (first | contradiction | (exfalso; omega)))) | refine s_splitQ_nb rfl rfl (fun h => ?_) (fun h => ?_) | refine s_splitQ rfl rfl (fun h => ?_) (fun h => ?_))) | refine lQ_then ?_ | refine lQ_ends ?_ | (refine kE ?_; (first | refine e_then_r ?_ | refine e_block_r ?_ | refine e_then_n ?_ | refine e_then_x ?_ | refine e_block_n ?_ | refine e_block_x ?_ | refine e_block_y rfl ?_)) | refine l_ends ?_)
  all_goals refine s_leave1 rfl rfl (fun w hw => ⟨_, _, _, rfl, ⟨rfl, by assumption, rfl⟩, ?_⟩)
  all_goals exact (hw.sub (L' := [_]) (by repeat' first | exact List.nil_sublist _ | exact List.Sublist.slnil | refine List.Sublist.cons_cons _ ?_ | refine List.Sublist.cons _ ?_)).lone
section
variable {n : Nat} {lo : SMut} {s : World} {ops : Array Oper} {Q : Exit → Act → World → Prop} {E : SEnv} {L : SHeap} {dd : Nat} {ty : TypeId} {pos : String} {after : Array Edge} {rest : List Oper}
theorem s_markReg (i : Nat) {v : Value} {l : List DRect} {k : Int} {H : SPiece} {args : List Operand} {ts : Array TypeId} (ha : svals E args = some [vReg v, .int .i64 k]) (hv : ORects v l H) (hL : getL L i = some H) (hk : 0 ≤ k ∧ k + 4 * l.length ≤ 4611686018427387904) (hd : Nat.blt dd n = true)
    (c : ∀ H', ORects v (iotaR k l.length) H' → WPL Tryz.prog n lo s ops Q rest ((dd, .int .i64 (k + 4 * l.length)) :: E) ([] :: setL L i H')) :
    WPL Tryz.prog n lo s ops Q (⟨some dd, .call { callee := .value (.func 47), args := args.toArray, argTypes := ts }, ty, pos, after, none⟩ :: rest) E L :=
  s_callG i (fun u H' F => u = .int .i64 (k + 4 * l.length) ∧ ORects v (iotaR k l.length) H' ∧ F = []) ha hL (fun w hw hh hn => c_markRegion v l H k w hv hh hn hk) hd (fun v' H' F hu => by obtain ⟨rfl, hu, rfl⟩ := hu; exact c H' hu)
end
end Go.Proofs.YtfmjeakcfmmkfaaGreat
/-
  Rules for unsigned numbers, copies, slices; slices.Repeat of one number.
-/
set_option linter.unusedVariables false
namespace Go.Proofs.YtfmjeakcfmmkfaaGreat
open Go Sx
attribute [local irreducible] Exit.then Exit.inBlock bodyPost
theorem u64_in (i : Int) (h : 0 ≤ i ∧ i ≤ 18446744073709551615) : IntKind.u64.wrap i = i := by
  simp [IntKind.wrap, IntKind.bits, IntKind.signed]; omega
section
variable {P : Program} {n : Nat} {lo : SMut} {s : World} {E : SEnv} {L : SHeap} {d : Option Tmp} {ty : TypeId} {pos : String} {after : Array Edge} {g : Option (Nat × Bool)} {x y : Operand} {xt yt : TypeId} {i j : Int}
theorem ov_addU (q : Int) (hx : sval E x = some (.int .u64 i)) (hy : sval E y = some (.int .u64 j)) (h : i + j = q) (hq : 0 ≤ q ∧ q ≤ 18446744073709551615) : SOpV P n lo s E L ⟨d, .binOp .add xt x y yt, ty, pos, after, g⟩ (.int .u64 q) :=
  SOpV.of_run fun a ha w hw => by simp [execOp, eqGuard, binOp, Op.intArith, ha.sval hx, ha.sval hy, h, u64_in _ hq]
theorem ov_mulU (q : Int) (hx : sval E x = some (.int .u64 i)) (hy : sval E y = some (.int .u64 j)) (h : i * j = q) (hq : 0 ≤ q ∧ q ≤ 18446744073709551615) : SOpV P n lo s E L ⟨d, .binOp .mul xt x y yt, ty, pos, after, g⟩ (.int .u64 q) :=
  SOpV.of_run fun a ha w hw => by simp [execOp, eqGuard, binOp, Op.intArith, ha.sval hx, ha.sval hy, h, u64_in _ hq]
theorem ov_shrU {kj : IntKind} (q : Int) (hx : sval E x = some (.int .u64 i)) (hy : sval E y = some (.int kj j)) (hj : 0 ≤ j ∧ j ≤ 62) (hq : i / 2 ^ j.toNat = q) : SOpV P n lo s E L ⟨d, .binOp .shr xt x y yt, ty, pos, after, g⟩ (.int .u64 q) :=
  SOpV.of_run fun a ha w hw => by
    have h0 : ¬ j < 0 := by omega
    have h1 : min j.toNat (IntKind.bits .u64) = j.toNat := by simp [IntKind.bits]; omega
    have h2 : i.fdiv (2 ^ j.toNat) = i / 2 ^ j.toNat := Int.fdiv_eq_ediv_of_nonneg _ (Int.le_of_lt (Int.pow_pos (by omega)))
    simp [execOp, eqGuard, binOp, Op.shift, ha.sval hx, ha.sval hy, h0, h1, h2, hq]
theorem ov_andU (q : Int) (hx : sval E x = some (.int .u64 i)) (hy : sval E y = some (.int .u64 4294967295)) (hi : 0 ≤ i ∧ i ≤ 4294967295) (hq : i = q) : SOpV P n lo s E L ⟨d, .binOp .and xt x y yt, ty, pos, after, g⟩ (.int .u64 q) :=
  SOpV.of_run fun a ha w hw => by
    subst hq
    obtain ⟨m, rfl⟩ := Int.eq_ofNat_of_zero_le hi.1
    have hm : m < 2 ^ 32 := by omega
    have h1 : (BitVec.ofInt 64 (m : Int)).toNat = m := by rw [BitVec.toNat_ofInt]; omega
    have h2 : (BitVec.ofInt 64 4294967295).toNat = 2 ^ 32 - 1 := by decide
    have h3 : ((BitVec.ofInt 64 (m : Int) &&& BitVec.ofInt 64 4294967295).toNat : Int) = m := by
      rw [BitVec.toNat_and, h1, h2, Nat.and_two_pow_sub_one_eq_mod, Nat.mod_eq_of_lt hm]
    have : (execOp a.eval ⟨d, .binOp .and xt x y yt, ty, pos, after, g⟩).run P w = .ok (.value (.int .u64 (IntKind.u64.wrap ((BitVec.ofInt 64 (m : Int) &&& BitVec.ofInt 64 4294967295).toNat : Int)))) w := by
      simp only [execOp, eqGuard, binOp, Op.intBits, ha.sval hx, ha.sval hy]
      rfl
    rw [this, h3, u64_in _ (by omega)]
theorem ov_convU {src dst : TypeId} {sd : TypeDesc} {k : IntKind} [hs : SUnd P src sd] [hd : SUnd P dst (.int .u64)] (hx : sval E x = some (.int k i)) (h : 0 ≤ i ∧ i ≤ 18446744073709551615) :
    SOpV P n lo s E L ⟨d, .convert src dst x, ty, pos, after, g⟩ (.int .u64 i) :=
  SOpV.of_run fun a ha w hw => by
    have e : P.intKind dst = .u64 := by unfold Program.intKind; rw [hd.h]
    have h1 := run_convert_int (P := P) (w := w) src dst k i (by rw [hs.h]; rfl) (by rw [e]; exact hd.h)
    rw [e] at h1
    simp [execOp, ha.sval hx, h1, u64_in i h]
/-- s[:hi] of an own slice -/
theorem ov_sliceHi {t e : TypeId} {a : Option Addr} {m c : Nat} {z : Value} {kk by_ : Nat} {ik : IntKind} [hu : SUnd P t (.slice e)] [hi : SInf P e z kk by_] (hx : sval E x = some (.slice a m c)) (hy : sval E y = some (.int ik j)) (hj : 0 ≤ j ∧ j ≤ c) :
    SOpV P n lo s E L ⟨d, .slice t x none (some y) none, ty, pos, after, g⟩ (.slice a j.toNat c) :=
  SOpV.of_run fun aa ha w hw => by
    cases a with
    | none => simp [execOp, Instr.sliceAt, Instr.slice, Instr.sliceBounds, Instr.sliceBound, asIntOf, ha.sval hx, ha.sval hy, srun_und, srun_sizeOf, hj.1, hj.2]
    | some A =>
      have hA : A.add 0 = A := rfl
      simp [execOp, Instr.sliceAt, Instr.slice, Instr.sliceBounds, Instr.sliceBound, asIntOf, ha.sval hx, ha.sval hy, srun_und, srun_sizeOf, hj.1, hj.2, hA]
/-- s[lo:] of an own slice -/
theorem ov_sliceLo {t e : TypeId} {b o m c : Nat} {z : Value} {by_ : Nat} {ik : IntKind} [hu : SUnd P t (.slice e)] [hi : SInf P e z 1 by_] (hx : sval E x = some (.slice (some ⟨b, o, none⟩) m c)) (hy : sval E y = some (.int ik j)) (hj : 0 ≤ j ∧ j ≤ m ∧ j < c) :
    SOpV P n lo s E L ⟨d, .slice t x (some y) none none, ty, pos, after, g⟩ (.slice (some ⟨b, o + j.toNat, none⟩) (m - j.toNat) (c - j.toNat)) :=
  SOpV.of_run fun aa ha w hw => by
    have hc : ¬ c = j.toNat := by omega
    simp [execOp, Instr.sliceAt, Instr.slice, Instr.sliceBounds, Instr.sliceBound, asIntOf, ha.sval hx, ha.sval hy, srun_und, srun_sizeOf, hj.1, hj.2.1, hc, Addr.add_lit]
end
section
variable {P : Program} {n : Nat} {lo : SMut} {s : World} {ops : Array Oper} {Q : Exit → Act → World → Prop} {E : SEnv} {L : SHeap} {d : Nat} {ty : TypeId} {pos : String} {after : Array Edge} {rest : List Oper}
/-- copy into an own block of one-cell elements -/
theorem s_copyOwn (i : Nat) {dT sT e X : TypeId} {x y : Operand} {b o m c m2 c2 : Nat} {a : Addr} {cur cs : List Value} {T : TypeId} {z : Value} {by_ : Nat} [hu : SUnd P dT (.slice e)] [hi : SInf P e z 1 by_]
    (hx : sval E x = some (.slice (some ⟨b, o, none⟩) m c)) (hy : sval E y = some (.slice (some a) m2 c2)) (hL : getL L i = some [(b, srow cur T)]) (hn : cs.length = Nat.min m2 m) (hfit : o + cs.length ≤ cur.length) (h1 : oneCells cs = true)
    (hsrc : ∀ w, SSt lo s L w → ∀ j v, cs[j]? = some v → w.cell? (a.add j) = some v) (hd : Nat.blt d n = true)
    (kk : WPL P n lo s ops Q rest ((d, .int .i64 cs.length) :: E) (setL L i [(b, srow (cur.take o ++ cs ++ cur.drop (o + cs.length)) T)])) :
    WPL P n lo s ops Q (⟨some d, .call { callee := .builtin .copy, args := #[x, y], argTypes := #[dT, sT] }, X, pos, after, none⟩ :: rest) E L := by
  refine s_eff (E' := fun _ _ => []) (fun w u w' => u = .int .i64 cs.length ∧ w' = w.setRow b (cur.take o ++ cs ++ cur.drop (o + cs.length)).toArray) (fun aa w ha hw => ⟨_, _, ?_, rfl, rfl⟩) hd ?_
  · obtain ⟨ii, i1, i2, i3, i4⟩ := hi.out
    have hblk := (hw.blocks b _ (getL_flat hL (List.mem_singleton.2 rfl))).2
    have h := run_copy_row (P := P) w dT sT X e b o m c a m2 c2 cur.toArray T cs hu.h (by rw [i1]; simp [i3]) hblk hn (hsrc w hw) (by simpa using hfit) (oneCells_mem h1)
    simp [execOp, resolve, invoke, builtin, ha.sval hx, ha.sval hy, h, goInt]
  · rintro w u w' hw ⟨rfl, rfl⟩ aa ha
    exact (by unfold WPL at kk; exact kk aa _ ha (hw.srow hL))
end
theorem c_mul64 (q : Int) (w : World) (h : 0 ≤ q ∧ q ≤ 1000000) : SYields Tryz.prog 222 #[.int .u64 1, .int .u64 q] (.tuple #[.int .u64 0, .int .u64 q]) w := by
  (first | apply SYields.mk | apply SYieldsF.mk | skip); refine s_enter Tryz.func222 rfl Tryz.ntmps222 rfl ?_
  repeat' (first | exact rfl | (apply kO; (first | exact ov_pure rfl | (apply kOBin; (first | exact aBin | exact (ov_andU 1 rfl rfl (by omega) (by omega)) | exact (ov_andU q rfl rfl (by omega) (by omega)) | exact (ov_andU 0 rfl rfl (by omega) (by omega)) | exact (ov_shrU 0 rfl rfl (by omega) (by simp; try omega)))) | (apply kOCall; (first | (apply kCallB; (first | exact aBlt | exact aLenR)))) | (apply kOLoad; (first | exact aLdF | exact aLdR)) | exact ov_fieldAddr rfl | (apply kOIdx; (first | exact aIdx)) | exact aRest | exact (ov_mulU q rfl rfl (by omega) (by omega)) | exact (ov_mulU 0 rfl rfl (by omega) (by omega)) | exact (ov_addU 0 rfl rfl (by omega) (by omega)) | exact aNew | exact (ov_field1 (ft := 31) rfl rfl rfl rfl))) | (refine kN ?_; (first | (refine kStore ?_; (first | refine s_store1 _ rfl rfl gpA rfl (by rfl) ?_ | refine s_storeS _ rfl rfl gpA rfl rfl (by rfl) ?_ | refine s_storeS _ rfl rfl gpA rfl (ones_img oiA) (by rfl) ?_)) | refine s_boxS rfl rfl (fun b hb => ?_) | refine s_allocS rfl (fun b hb => ?_) | refine s_box1 rfl rfl rfl (fun b hb => ?_) | refine s_alloc1 rfl rfl (fun b hb => ?_) | refine s_buildSlice0 rfl (fun b hb => ?_) | refine s_buildSlice rfl rfl rfl rfl rfl (fun b hb => ?_) | apply s_step)) | (refine kG ?_; (first | refine s_gyes rfl rfl rfl ?_ | refine s_gno rfl rfl rfl rfl rfl ?_ | ((first | refine s_split_d rfl rfl (fun h => ?_) (fun h => ?_) | refine s_split_n rfl rfl (fun h => ?_) (fun h => ?_)) <;> (try (first | contradiction | (exfalso; omega)))) | refine s_split_nb rfl rfl (fun h => ?_) (fun h => ?_) | refine s_split rfl rfl (fun h => ?_) (fun h => ?_))) | refine l_then ?_ | (refine kC ?_; (first | refine c_seq ?_ | refine c_regionN rfl ?_ | refine c_ret ?_ | (refine kCond ?_; (first | refine c_cond_t rfl ?_ | refine c_cond_f rfl ?_ | ((first | refine c_cond_d rfl (fun h => ?_) (fun h => ?_) | refine c_cond_n rfl (fun h => ?_) (fun h => ?_)) <;> (try (first | contradiction | (exfalso; omega)))) | refine c_cond_nb rfl (fun h => ?_) (fun h => ?_) | refine c_cond rfl (fun h => ?_) (fun h => ?_))) | refine c_block ?_ | refine c_skip ?_ | refine c_exit ?_ | refine c_regionQN rfl rfl (by decide +kernel) ?_)) | apply s_stepQ | (refine kQG ?_; (first | refine s_gyesQ rfl rfl rfl ?_ | refine s_gnoQ rfl rfl rfl rfl rfl ?_ | ((first | refine s_splitQ_d rfl rfl (fun h => ?_) (fun h => ?_) | refine s_splitQ_n rfl rfl (fun h => ?_) (fun h => ?_)) <;> (try (first | contradiction | (exfalso; omega)))) | refine s_splitQ_nb rfl rfl (fun h => ?_) (fun h => ?_) | refine s_splitQ rfl rfl (fun h => ?_) (fun h => ?_))) | refine lQ_then ?_ | refine lQ_ends ?_ | (refine kE ?_; (first | refine e_then_r ?_ | refine e_block_r ?_ | refine e_then_n ?_ | refine e_then_x ?_ | refine e_block_n ?_ | refine e_block_x ?_ | refine e_block_y rfl ?_)) | refine l_ends ?_)
  all_goals exact s_leave2 rfl rfl rfl (fun w hw => ⟨rfl, hw.below⟩)
theorem c_mul (q : Int) (w : World) (h : 0 ≤ q ∧ q ≤ 1000000) : SYields Tryz.prog 197 #[.int .u64 1, .int .u64 q] (.tuple #[.int .u64 0, .int .u64 q]) w := by
  (first | apply SYields.mk | apply SYieldsF.mk | skip); refine s_enter Tryz.func197 rfl Tryz.ntmps197 rfl ?_
  repeat' (first | exact rfl | (apply kO; (first | exact ov_pure rfl | (apply kOBin; (first | exact aBin)) | (apply kOCall; (first | (apply kCallF; (first | exact (ov_call rfl (fun w hw => c_mul64 _ w (by omega))))) | (apply kCallB; (first | exact aBlt | exact aLenR)))) | (apply kOLoad; (first | exact aLdF | exact aLdR)) | exact ov_fieldAddr rfl | (apply kOIdx; (first | exact aIdx)) | exact aRest | exact aNew | exact (ov_field1 (ft := 31) rfl rfl rfl rfl))) | (refine kN ?_; (first | (refine kStore ?_; (first | refine s_store1 _ rfl rfl gpA rfl (by rfl) ?_ | refine s_storeS _ rfl rfl gpA rfl rfl (by rfl) ?_ | refine s_storeS _ rfl rfl gpA rfl (ones_img oiA) (by rfl) ?_)) | refine s_boxS rfl rfl (fun b hb => ?_) | refine s_allocS rfl (fun b hb => ?_) | refine s_box1 rfl rfl rfl (fun b hb => ?_) | refine s_alloc1 rfl rfl (fun b hb => ?_) | refine s_buildSlice0 rfl (fun b hb => ?_) | refine s_buildSlice rfl rfl rfl rfl rfl (fun b hb => ?_) | apply s_step)) | (refine kG ?_; (first | refine s_gyes rfl rfl rfl ?_ | refine s_gno rfl rfl rfl rfl rfl ?_ | ((first | refine s_split_d rfl rfl (fun h => ?_) (fun h => ?_) | refine s_split_n rfl rfl (fun h => ?_) (fun h => ?_)) <;> (try (first | contradiction | (exfalso; omega)))) | refine s_split_nb rfl rfl (fun h => ?_) (fun h => ?_) | refine s_split rfl rfl (fun h => ?_) (fun h => ?_))) | refine l_then ?_ | (refine kC ?_; (first | refine c_seq ?_ | refine c_regionN rfl ?_ | refine c_ret ?_ | (refine kCond ?_; (first | refine c_cond_t rfl ?_ | refine c_cond_f rfl ?_ | ((first | refine c_cond_d rfl (fun h => ?_) (fun h => ?_) | refine c_cond_n rfl (fun h => ?_) (fun h => ?_)) <;> (try (first | contradiction | (exfalso; omega)))) | refine c_cond_nb rfl (fun h => ?_) (fun h => ?_) | refine c_cond rfl (fun h => ?_) (fun h => ?_))) | refine c_block ?_ | refine c_skip ?_ | refine c_exit ?_ | refine c_regionQN rfl rfl (by decide +kernel) ?_)) | apply s_stepQ | (refine kQG ?_; (first | refine s_gyesQ rfl rfl rfl ?_ | refine s_gnoQ rfl rfl rfl rfl rfl ?_ | ((first | refine s_splitQ_d rfl rfl (fun h => ?_) (fun h => ?_) | refine s_splitQ_n rfl rfl (fun h => ?_) (fun h => ?_)) <;> (try (first | contradiction | (exfalso; omega)))) | refine s_splitQ_nb rfl rfl (fun h => ?_) (fun h => ?_) | refine s_splitQ rfl rfl (fun h => ?_) (fun h => ?_))) | refine lQ_then ?_ | refine lQ_ends ?_ | (refine kE ?_; (first | refine e_then_r ?_ | refine e_block_r ?_ | refine e_then_n ?_ | refine e_then_x ?_ | refine e_block_n ?_ | refine e_block_x ?_ | refine e_block_y rfl ?_)) | refine l_ends ?_)
  all_goals exact s_leave2 rfl rfl rfl (fun w hw => ⟨rfl, hw.below⟩)
def fillP (p : Int) (n j : Nat) : List Int := List.replicate j p ++ List.replicate (n - j) 0
theorem fillP_length (p : Int) {n j : Nat} (h : j ≤ n) : (fillP p n j).length = n := by simp [fillP]; omega
theorem fillP_copy (p : Int) {n j m : Nat} (hj : j + m ≤ n) : (ivals (fillP p n j)).take j ++ ivals (List.replicate m p) ++ (ivals (fillP p n j)).drop (j + (ivals (List.replicate m p)).length) = ivals (fillP p n (j + m)) := by
  have e1 : (ivals (fillP p n j)).take j = ivals (List.replicate j p) := by
    simp [fillP, ivals]
  have e2 : (ivals (fillP p n j)).drop (j + m) = ivals (List.replicate (n - (j + m)) 0) := by
    simp only [fillP, ivals, List.map_append, List.map_replicate]
    rw [List.drop_append, List.drop_of_length_le (by simp), List.nil_append, List.length_replicate, List.drop_replicate]
    congr 1; omega
  rw [ivals_length, List.length_replicate, e1, e2]
  simp [fillP, ivals, ← List.append_assoc, List.replicate_append_replicate]
theorem fillP_one (p : Int) {n : Nat} : (List.replicate n (Value.int .i64 0)).take 0 ++ [Value.int .i64 p] ++ (List.replicate n (Value.int .i64 0)).drop (0 + [Value.int .i64 p].length) = ivals (fillP p n 1) := by
  simp [fillP, ivals]
theorem fillP_src (p : Int) {n j k m : Nat} {u : Value} (h : (ivals (List.replicate (min j k) p))[m]? = some u) : (ivals (fillP p n j))[m]? = some u := by
  simp only [ivals, fillP, List.map_append, List.map_replicate, List.getElem?_replicate] at h ⊢
  split at h
  · rw [List.getElem?_append_left (by simp; omega), List.getElem?_replicate, if_pos (by omega)]; exact h
  · cases h
theorem fillP_all (p : Int) (n : Nat) : fillP p n n = List.replicate n p := by simp [fillP]
theorem c_repeat (v : Value) (p q : Int) (w : World) (hv : RInts w v [p]) (hq : 1 ≤ q ∧ q ≤ 100000) : SYieldsF Tryz.prog 143 #[v, .int .i64 q] (fun u H => OInts 3 u (List.replicate q.toNat p) H) w := by
  have hv' := hv.form
  obtain ⟨a, c, rfl⟩ := hv'
  obtain ⟨b0, o0, rfl⟩ : ∃ b o, a = some ⟨b, o, none⟩ := by
    obtain ⟨a', c', he, hf⟩ := RRow.form hv
    obtain ⟨b, o, rfl⟩ := hf (by simp)
    cases he; exact ⟨b, o, rfl⟩
  have hs1 : ([p].length : Nat) = 1 := rfl
  rw [hs1]
  have hf0 := fillP_copy p (n := q.toNat) (j := 0) (m := 1) (by omega)
  (first | apply SYields.mk | apply SYieldsF.mk | skip); refine s_enter Tryz.func143 rfl Tryz.ntmps143 rfl ?_
  repeat' (first | exact rfl | (apply kO; (first | exact ov_pure rfl | (apply kOBin; (first | exact aBin | exact (ov_add rfl rfl (by rw [ivals_length, List.length_replicate]; omega)))) | (apply kOCall; (first | (apply kCallF; (first | exact (ov_call rfl (fun w hw => c_mul _ w (by omega))))) | (apply kCallB; (first | exact aBlt | exact aLenR)))) | (apply kOLoad; (first | exact aLdF | exact aLdR)) | exact ov_fieldAddr rfl | (apply kOIdx; (first | exact aIdx)) | exact aRest | exact (ov_convU rfl (by omega)) | exact (ov_gtr rfl rfl) | (apply kSlice; exact (ov_sliceHi rfl rfl (by omega))) | (apply kSlice; exact (ov_sliceLo rfl rfl (by omega))) | exact aNew | exact (ov_field1 (ft := 31) rfl rfl rfl rfl))) | (refine kN ?_; (first | (refine kCall ?_; (first | (refine s_copyOwn 0 (cs := [.int .i64 p]) rfl rfl rfl (by show 1 = min 1 q.toNat; omega) (by rw [List.length_replicate]; show 0 + 1 ≤ q.toNat; omega) rfl (fun w hw j u hu => RInts.src (hv.keep (hw.cells rfl)) j u (by simpa [ivals] using hu)) rfl ?_) | (refine s_copyOwn 0 (cs := ivals (List.replicate (min j (q.toNat - j)) p)) rfl rfl rfl (by rw [ivals_length, List.length_replicate, Int.toNat_natCast] <;> first | done | rfl) (by rw [ivals_length, ivals_length, List.length_replicate, fillP_length _ (by omega)]; omega) (oneCells_ivals _) (fun w hw m u hu => by rw [Addr.add_lit, Nat.zero_add]; exact hw.captured (i := 0) rfl m u (fillP_src p hu)) rfl ?_) | apply s_step)) | (refine kStore ?_; (first | refine s_store1 _ rfl rfl gpA rfl (by rfl) ?_ | refine s_storeS _ rfl rfl gpA rfl rfl (by rfl) ?_ | refine s_storeS _ rfl rfl gpA rfl (ones_img oiA) (by rfl) ?_)) | refine s_boxS rfl rfl (fun b hb => ?_) | refine s_allocS rfl (fun b hb => ?_) | refine s_box1 rfl rfl rfl (fun b hb => ?_) | refine s_alloc1 rfl rfl (fun b hb => ?_) | (refine kWMake ?_; (refine s_make1 rfl rfl rfl ⟨by omega, by omega, by omega⟩ (by omega) rfl (fun b hb => ?_))) | refine s_buildSlice0 rfl (fun b hb => ?_) | refine s_buildSlice rfl rfl rfl rfl rfl (fun b hb => ?_) | apply s_step)) | (refine kG ?_; (first | refine s_gyes rfl rfl rfl ?_ | refine s_gno rfl rfl rfl rfl rfl ?_ | ((first | refine s_split_d rfl rfl (fun h => ?_) (fun h => ?_) | refine s_split_n rfl rfl (fun h => ?_) (fun h => ?_)) <;> (try (first | contradiction | (exfalso; omega)))) | refine s_split_nb rfl rfl (fun h => ?_) (fun h => ?_) | refine s_split rfl rfl (fun h => ?_) (fun h => ?_))) | (refine kS ?_; (first | refine h_exec rfl ?_ | refine h_take_nil rfl rfl rfl ?_ | refine h_take_pick rfl rfl rfl ?_ | refine h_nil ?_ | refine h_alt ?_ ?_ | apply h_take)) | (refine kBack ?_; (first | refine h_back_last rfl ?_ | refine h_backN rfl subA ?_)) | refine l_then ?_ | (refine kC ?_; (first | (refine kReg 9 ?_; refine c_regionSubN (SPlan.take 0 (SPlan.take 1 (SPlan.take 2 (SPlan.take 3 (SPlan.take 4 (SPlan.take 5 (SPlan.take 6 (SPlan.run 7 (SPlan.take 8 (SPlan.take 9 SPlan.done)))))))))) none [false] rfl rfl rfl (by decide +kernel) ?_) | (refine c_loopV (ι := Nat) (fun j => 1 ≤ j ∧ j ≤ q.toNat) (fun j => [(8, .int .i64 (j : Int))]) (fun j => [[(b, srow (ivals (fillP p q.toNat j)) 3)]]) (fun j => q.toNat - j) 1 (by omega) rfl (fun _ => rfl) ⟨rfl, trivial⟩ (fun w hw => by have e := fillP_one p (n := q.toNat); rw [← e]; exact hw) (fun j hj => ?_)) | refine c_seq ?_ | refine c_regionN rfl ?_ | refine c_ret ?_ | (refine kCond ?_; (first | refine c_cond_t rfl ?_ | refine c_cond_f rfl ?_ | ((first | refine c_cond_d rfl (fun h => ?_) (fun h => ?_) | refine c_cond_n rfl (fun h => ?_) (fun h => ?_)) <;> (try (first | contradiction | (exfalso; omega)))) | refine c_cond_nb rfl (fun h => ?_) (fun h => ?_) | refine c_cond rfl (fun h => ?_) (fun h => ?_))) | refine c_block ?_ | refine c_skip ?_ | refine c_exit ?_ | refine c_regionQN rfl rfl (by decide +kernel) ?_)) | apply s_stepQ | (refine kQG ?_; (first | refine s_gyesQ rfl rfl rfl ?_ | refine s_gnoQ rfl rfl rfl rfl rfl ?_ | ((first | refine s_splitQ_d rfl rfl (fun h => ?_) (fun h => ?_) | refine s_splitQ_n rfl rfl (fun h => ?_) (fun h => ?_)) <;> (try (first | contradiction | (exfalso; omega)))) | refine s_splitQ_nb rfl rfl (fun h => ?_) (fun h => ?_) | refine s_splitQ rfl rfl (fun h => ?_) (fun h => ?_))) | refine lQ_then ?_ | refine lQ_ends ?_ | (refine kE ?_; (first | refine e_then_r ?_ | refine e_block_r ?_ | refine e_then_n ?_ | refine e_then_x ?_ | refine e_block_n ?_ | refine e_block_x ?_ | refine e_block_y rfl ?_)) | refine l_ends ?_)
  · refine e_round (j + min j (q.toNat - j)) ⟨by omega, by omega⟩ ⟨slook_to rfl (vint_to (by rw [ivals_length, List.length_replicate]; push_cast; omega)), (by repeat' first | exact trivial | refine ⟨rfl, ?_⟩)⟩ (fun w hw => ?_) (by omega)
    rw [show 0 + (j : Int).toNat = j by omega, fillP_copy p (by omega)] at hw
    exact hw
  · obtain rfl : j = q.toNat := by omega
    rw [fillP_all]
    refine s_leave1 rfl rfl (fun w hw => ⟨_, _, rfl, ?_, hw.toFresh (i := 0) rfl⟩)
    have := OInts.whole 3 b (List.replicate q.toNat p) (by rw [List.length_replicate]; unfold maxLen; omega)
    rw [List.length_replicate] at this
    exact this
end Go.Proofs.YtfmjeakcfmmkfaaGreat
/-
  Rules: a struct stored into an own slice; s[:hi] of rows that are read.
-/
set_option linter.unusedVariables false
namespace Go.Proofs.YtfmjeakcfmmkfaaGreat
open Go Sx
attribute [local irreducible] Exit.then Exit.inBlock bodyPost
theorem rrow_hi {w : World} {a : Option Addr} {m c k : Nat} {cells : Nat → List Value} (h : RRow w (.slice a m c) k m cells) {q : Nat} (hq : q ≤ m) : RRow w (.slice a q c) k q cells := by
  obtain ⟨ad, c', e, h2⟩ := h.form
  injection e with e1 e2 e3
  subst e1
  have hr : m ≤ c := h.room
  have hl := h.len
  exact ⟨⟨_, _, rfl, fun h0 => h2 (by omega)⟩, by omega, fun i hi => h.size i (by omega), fun i hi j u hu => by have := h.cell i (by omega) j u hu; cases a <;> exact this, show q ≤ c by omega⟩
theorem flat_set {α : Type} {c : α → List Value} {kk : Nat} (hc : ∀ a, (c a).length = kk) (l : List α) (r : List Value) {k : Nat} (hk : k < l.length) (a : α) :
    (l.flatMap c ++ r).take (k * kk) ++ c a ++ (l.flatMap c ++ r).drop (k * kk + kk) = (l.set k a).flatMap c ++ r := by
  have e : l = l.take k ++ l[k] :: l.drop (k + 1) := by rw [← List.drop_eq_getElem_cons hk, List.take_append_drop]
  have e1 : l.flatMap c ++ r = (l.take k).flatMap c ++ (c l[k] ++ ((l.drop (k + 1)).flatMap c ++ r)) := by
    conv => lhs; rw [e]
    rw [List.flatMap_append, List.flatMap_cons, List.append_assoc, List.append_assoc]
  have hl : ((l.take k).flatMap c).length = k * kk := by rw [flatMap_length hc, List.length_take, Nat.min_eq_left (by omega)]
  rw [e1, List.take_left' hl, ← List.drop_drop, List.drop_left' hl, List.drop_left' (hc _)]
  rw [List.set_eq_take_append_cons_drop, if_pos hk, List.flatMap_append, List.flatMap_cons]
  simp [List.append_assoc]
section
variable {P : Program} {n : Nat} {lo : SMut} {s : World} {ops : Array Oper} {Q : Exit → Act → World → Prop} {E : SEnv} {L : SHeap} {d : Nat} {ty : TypeId} {pos : String} {after : Array Edge} {rest : List Oper}
theorem s_setVs (i : Nat) {α : Type} {c : α → List Value} {kk : Nat} {T e : TypeId} {x y : Operand} {v z : Value} {by_ k : Nat} {l : List α} {a : α} {H : SPiece} [hi : SInf P T z kk by_]
    (hx : sval E x = some (.pointer (some ⟨(baseOf v).1, (baseOf v).2 + k * kk, none⟩))) (hy : sval E y = some (.agg (c a).toArray)) (hv : OVs c kk e v l H) (hL : getL L i = some H)
    (hc : ∀ a, (c a).length = kk) (h1 : oneCells (c a) = true) (hk : k < l.length)
    (cont : ∀ H', OVs c kk e v (l.set k a) H' → WPL P n lo s ops Q rest E (setL L i H')) : WPL P n lo s ops Q (⟨none, .store T x y, ty, pos, after, none⟩ :: rest) E L := by
  unfold OVs at hv
  generalize hxs : l.flatMap c = xs at hv
  generalize hnn : l.length = nn at hv
  cases hv with
  | nil => omega
  | blk b n' cap xs r h2 h3 h4 h5 =>
    subst hxs
    subst hnn
    simp only [baseOf, Nat.zero_add] at hx
    have hle : k * kk + kk ≤ (l.flatMap c ++ r).length := by
      rw [List.length_append, h2]
      have : (k + 1) * kk ≤ l.length * kk := Nat.mul_le_mul_right _ hk
      rw [Nat.succ_mul] at this; omega
    refine s_setRS i hx hy hL (hc a) h1 hle ?_
    rw [flat_set hc l r hk a]
    refine cont _ ?_
    have := OVec.blk (k := kk) (T := e) b l.length cap ((l.set k a).flatMap c) r (by rw [flatMap_length hc, List.length_set]) (by rw [List.length_append, flatMap_length hc, List.length_set]; rw [List.length_append, h2] at h3; exact h3) h4 h5
    unfold OVs
    rw [List.length_set]; exact this
end
end Go.Proofs.YtfmjeakcfmmkfaaGreat
/-
  Rules: pieces that are taken apart and put together; slices of structs that grow. Nothing of any one program.
-/
set_option linter.unusedVariables false
namespace Go.Proofs.YtfmjeakcfmmkfaaGreat
open Go Sx
theorem setL_flat {L : SHeap} {i : Nat} {H : SPiece} (h : getL L i = some H) : L.flatten.Perm (H ++ (setL L i []).flatten) := by
  obtain ⟨A, B, h1, h2⟩ := getL_split h
  rw [h1] at h2 ⊢
  rw [h2]
  simp only [List.flatten_append, List.flatten_cons, List.nil_append]
  exact List.perm_append_comm_assoc ..
theorem setL_put {L : SHeap} {i : Nat} {H H' : SPiece} (h : getL L i = some H) : (setL L i H').flatten.Perm (H' ++ (setL L i []).flatten) := by
  obtain ⟨A, B, h1, h2⟩ := getL_split h
  rw [h2, h2]
  simp only [List.flatten_append, List.flatten_cons, List.nil_append]
  exact List.perm_append_comm_assoc ..
theorem getL_set : ∀ {L : SHeap} {i : Nat} {H X : SPiece}, getL L i = some H → getL (setL L i X) i = some X
  | [], i, H, X, h => by simp [getL] at h
  | x :: r, 0, H, X, h => rfl
  | x :: r, i + 1, H, X, h => getL_set (L := r) (i := i) h
theorem getL_other : ∀ {L : SHeap} {i j : Nat} {X : SPiece}, i ≠ j → getL (setL L i X) j = getL L j
  | [], i, j, X, h => by cases i <;> rfl
  | x :: r, 0, 0, X, h => absurd rfl h
  | x :: r, 0, j + 1, X, h => rfl
  | x :: r, i + 1, 0, X, h => rfl
  | x :: r, i + 1, j + 1, X, h => getL_other (L := r) (i := i) (j := j) (fun e => h (by rw [e]))
theorem setL_twice : ∀ (L : SHeap) (i : Nat) (X Y : SPiece), setL (setL L i X) i Y = setL L i Y
  | [], i, X, Y => by cases i <;> rfl
  | x :: r, 0, X, Y => rfl
  | x :: r, i + 1, X, Y => by show x :: _ = x :: _; rw [setL_twice r i X Y]
theorem setL_comm : ∀ (L : SHeap) {i j : Nat} (X Y : SPiece), i ≠ j → setL (setL L i X) j Y = setL (setL L j Y) i X
  | [], i, j, X, Y, h => by cases i <;> cases j <;> rfl
  | x :: r, 0, 0, X, Y, h => absurd rfl h
  | x :: r, 0, j + 1, X, Y, h => rfl
  | x :: r, i + 1, 0, X, Y, h => rfl
  | x :: r, i + 1, j + 1, X, Y, h => by show x :: _ = x :: _; rw [setL_comm r X Y (fun e => h (by rw [e]))]
theorem nbeq {i j : Nat} (h : Nat.beq i j = false) : i ≠ j := fun e => by subst e; simp at h
section
variable {P : Program} {n : Nat} {lo : SMut} {s : World} {ops : Array Oper} {Q : Exit → Act → World → Prop} {E : SEnv} {L : SHeap} {l : List Oper}
theorem w_perm {L' : SHeap} (hp : L.flatten.Perm L'.flatten) (k : WPL P n lo s ops Q l E L') : WPL P n lo s ops Q l E L := by
  unfold WPL at *
  exact fun a w ha hw => k a w ha (hw.perm hp)
theorem cc_perm {c : Code} {L' : SHeap} (hp : L.flatten.Perm L'.flatten) (k : WPC P n lo s c Q E L') : WPC P n lo s c Q E L := by
  unfold WPC at *
  exact fun a w ha hw => k a w ha (hw.perm hp)
theorem w_sub {L' : SHeap} (hp : L'.Sublist L) (k : WPL P n lo s ops Q l E L') : WPL P n lo s ops Q l E L := by
  unfold WPL at *
  exact fun a w ha hw => k a w ha (hw.sub hp)
theorem ee_sub {e : Exit} {L' : SHeap} (hp : L'.Sublist L) (k : SEnds n lo s Q e E L') : SEnds n lo s Q e E L := by
  unfold SEnds at *
  exact fun a w ha hw => k a w ha (hw.sub hp)
/-- piece i in two: the second part goes ahead -/
theorem w_split (i : Nat) {A B : SPiece} (h : getL L i = some (A ++ B)) (k : WPL P n lo s ops Q l E (B :: setL L i A)) : WPL P n lo s ops Q l E L := by
  refine w_perm ?_ k
  refine (setL_flat h).trans ?_
  rw [List.flatten_cons, List.append_assoc]
  refine (List.perm_append_comm_assoc ..).trans (List.Perm.append_left _ (setL_put h).symm)
/-- piece 0 goes behind piece i + 1 -/
theorem w_merge (i : Nat) {A B : SPiece} (h : getL L i = some A) (k : WPL P n lo s ops Q l E (setL L i (A ++ B))) : WPL P n lo s ops Q l E (B :: L) := by
  refine w_perm ?_ k
  rw [List.flatten_cons]
  refine (List.Perm.append_left _ (setL_flat h)).trans ((setL_put h).trans ?_).symm
  rw [List.append_assoc]
  exact List.perm_append_comm_assoc ..
/-- piece j goes behind piece i -/
theorem w_move (i j : Nat) {A B : SPiece} (hi : getL L i = some A) (hj : getL L j = some B) (hij : Nat.beq i j = false) (k : WPL P n lo s ops Q l E (setL (setL L i (A ++ B)) j [])) : WPL P n lo s ops Q l E L := by
  have hne := nbeq hij
  refine w_perm ?_ k
  have e1 := setL_flat hj
  have e2 : getL (setL L j []) i = some A := by rw [getL_other (Ne.symm hne)]; exact hi
  have e3 := setL_flat e2
  have e4 := setL_put (H' := A ++ B) e2
  rw [setL_comm L _ _ hne]
  refine e1.trans ((List.Perm.append_left _ e3).trans (e4.trans ?_).symm)
  rw [List.append_assoc]
  exact (List.perm_append_comm_assoc ..)
end
/-! ### rows with their inner slices -/
section
variable {α : Type} {e : SElem α}
/-- a struct, its inner slice, the piece behind it -/
abbrev ETri (α : Type) := α × Value × SPiece
def tcells (e : SElem α) (T : List (ETri α)) : List Value := T.flatMap (fun t => e.cells t.1 t.2.1)
def tpiece (T : List (ETri α)) : SPiece := T.flatMap (fun t => t.2.2)
theorem tcells_length (e : SElem α) : ∀ T : List (ETri α), (tcells e T).length = T.length * e.k
  | [] => by simp [tcells]
  | t :: T => by
    have := tcells_length e T
    unfold tcells at this ⊢
    rw [List.flatMap_cons, List.length_append, e.klen, this, List.length_cons, Nat.succ_mul, Nat.add_comm]
theorem tcells_append (e : SElem α) (A B : List (ETri α)) : tcells e (A ++ B) = tcells e A ++ tcells e B := List.flatMap_append
theorem tpiece_append (A B : List (ETri α)) : tpiece (A ++ B) = tpiece A ++ tpiece B := List.flatMap_append
theorem tcells_one (e : SElem α) (t : ETri α) : tcells e [t] = e.cells t.1 t.2.1 := by simp [tcells]
theorem tpiece_one (t : ETri α) : tpiece [t] = t.2.2 := by simp [tpiece]
theorem tcells_cons (e : SElem α) (t : ETri α) (T : List (ETri α)) : tcells e (t :: T) = e.cells t.1 t.2.1 ++ tcells e T := List.flatMap_cons
theorem tpiece_cons (t : ETri α) (T : List (ETri α)) : tpiece (t :: T) = t.2.2 ++ tpiece T := List.flatMap_cons
/-- what is owned, as a list of triples -/
theorem _root_.Sx.OElems.tri {U : TypeId} {v : Value} {l : List α} {H : SPiece} (h : OElems e U v l H) :
    ∃ (T : List (ETri α)) (H0 G : SPiece), T.map (·.1) = l ∧ OVec e.k U v T.length (tcells e T) H0 ∧ (∀ t ∈ T, e.own t.2.1 t.1 t.2.2) ∧ H = H0 ++ (tpiece T ++ G) := by
  obtain ⟨ds, H0, Hs, G, h1, h2, rfl⟩ := h
  refine ⟨(List.range l.length).map (fun i => (l.getD i e.dflt, ds i, Hs i)), H0, G, ?_, ?_, ?_, ?_⟩
  · apply List.ext_getElem?
    intro i
    by_cases hi : i < l.length
    · simp [hi]
    · simp [hi, List.getElem?_eq_none (show l.length ≤ i by omega)]
  · rw [List.length_map, List.length_range]
    have : tcells e ((List.range l.length).map (fun i => (l.getD i e.dflt, ds i, Hs i))) = erows e l ds l.length := by
      unfold tcells erows; rw [List.flatMap_map]
    rw [this]; exact h1
  · intro t ht
    obtain ⟨i, hi, rfl⟩ := List.mem_map.1 ht
    exact h2 i (List.mem_range.1 hi)
  · have : tpiece ((List.range l.length).map (fun i => (l.getD i e.dflt, ds i, Hs i))) = ecat Hs l.length := by
      unfold tpiece ecat; rw [List.flatMap_map]
    rw [this]
theorem flatMap_get {β γ : Type} (f : β → List γ) (d : β) : ∀ l : List β, (List.range l.length).flatMap (fun i => f (l.getD i d)) = l.flatMap f
  | [] => rfl
  | x :: l => by
    have := flatMap_get f d l
    rw [List.length_cons, List.range_succ_eq_map, List.flatMap_cons, List.flatMap_cons, List.flatMap_map, ← this]
    rfl
theorem _root_.Sx.OElems.ofTri {U : TypeId} {v : Value} {T : List (ETri α)} {H0 G : SPiece} (h1 : OVec e.k U v T.length (tcells e T) H0) (h2 : ∀ t ∈ T, e.own t.2.1 t.1 t.2.2) : OElems e U v (T.map (·.1)) (H0 ++ (tpiece T ++ G)) := by
  let d : ETri α := (e.dflt, undef, [])
  have hg : ∀ i, (T.map (·.1)).getD i e.dflt = (T.getD i d).1 := fun i => by
    rw [List.getD_eq_getElem?_getD, List.getD_eq_getElem?_getD, List.getElem?_map]
    cases T[i]? <;> rfl
  refine ⟨fun i => (T.getD i d).2.1, H0, fun i => (T.getD i d).2.2, G, ?_, fun i hi => ?_, ?_⟩
  · rw [List.length_map]
    have : erows e (T.map (·.1)) (fun i => (T.getD i d).2.1) T.length = tcells e T := by
      unfold erows tcells
      rw [← flatMap_get (fun t : ETri α => e.cells t.1 t.2.1) d T]
      exact congrArg (fun f => (List.range T.length).flatMap f) (funext fun i => by rw [hg i])
    rw [this]; exact h1
  · rw [List.length_map] at hi
    rw [hg i]
    have : T.getD i d ∈ T := by rw [List.getD_eq_getElem?_getD, List.getElem?_eq_getElem hi]; exact List.getElem_mem hi
    exact h2 _ this
  · rw [List.length_map]
    have : ecat (fun i => (T.getD i d).2.2) T.length = tpiece T := flatMap_get (fun t : ETri α => t.2.2) d T
    rw [this]
theorem _root_.Sx.OElems.nil {U : TypeId} : OElems e U (.slice none 0 0) ([] : List α) [] := OElems.ofTri (T := []) (G := []) OVec.nil (fun t h => by cases h)
theorem _root_.Sx.OElems.len {U : TypeId} {v : Value} {l : List α} {H : SPiece} (h : OElems e U v l H) : l.length ≤ maxLen := by
  obtain ⟨ds, H0, Hs, G, h1, _⟩ := h; exact OVec.le h1
theorem _root_.Sx.OElems.one {U : TypeId} {v : Value} {l : List α} {H : SPiece} (h : OElems e U v l H) : v.oneCell' = true := by
  obtain ⟨a, c, rfl⟩ := h.form; rfl
end
theorem perm5 {α : Type} (a g h q m : List α) : ((a ++ g) ++ (h ++ (q ++ m))).Perm ((q ++ (a ++ h ++ g)) ++ m) := by
  simp only [List.append_assoc]
  refine (List.Perm.append_left a ?_).trans (List.perm_append_comm_assoc a q _)
  refine (List.perm_append_comm_assoc g h _).trans ((List.Perm.append_left h (List.perm_append_comm_assoc g q m)).trans (List.perm_append_comm_assoc h q _))
theorem take_getD {α : Type} {l : List α} {j : Nat} (d : α) (h : j < l.length) : l.take (j + 1) = l.take j ++ [l.getD j d] := by
  rw [List.take_add_one, List.getElem?_eq_getElem h, List.getD_eq_getElem?_getD, List.getElem?_eq_getElem h]; rfl
section
variable {P : Program} {n : Nat} {lo : SMut} {s : World} {ops : Array Oper} {Q : Exit → Act → World → Prop} {E : SEnv} {L : SHeap} {d : Nat} {ty : TypeId} {pos : String} {after : Array Edge} {rest : List Oper}
/-- append of a literal of one struct to an own slice of structs: piece i; the literal's block is piece i2; what the struct holds is piece i3 -/
theorem s_appendE (i i2 i3 : Nat) {α : Type} {el : SElem α} {t e : TypeId} {x y : Operand} {v z : Value} {by_ b2 : Nat} {l : List α} {a : α} {dv : Value} {H Ha : SPiece} {X U : TypeId} [hu : SUnd P t (.slice e)] [hinf : SInf P e z el.k by_]
    (hx : sval E x = some v) (hy : sval E y = some (.slice (some ⟨b2, 0, none⟩) 1 1)) (hv : OElems el e v l H) (hL : getL L i = some H) (hL2 : getL L i2 = some [(b2, srow (el.cells a dv) U)])
    (ha : el.own dv a Ha) (hL3 : getL L i3 = some Ha) (h12 : Nat.beq i i2 = false) (h13 : Nat.beq i i3 = false)
    (h1 : oneCells (el.cells a dv) = true) (hz : z.cells.size = el.k) (hk0 : 0 < el.k) (hb : l.length + 1 ≤ 100000000) (hby : by_ ≤ 1024) (hd : Nat.blt d n = true)
    (k : ∀ v' H', OElems el e v' (l ++ [a]) H' → WPL P n lo s ops Q rest ((d, v') :: E) (setL (setL L i H') i3 [])) :
    WPL P n lo s ops Q (⟨some d, .call { callee := .builtin .append, args := #[x, y], argTypes := #[t, t] }, X, pos, after, none⟩ :: rest) E L := by
  obtain ⟨T, H0, G, rfl, o1, o2, rfl⟩ := hv.tri
  have hmul : (T.length + 1) * by_ ≤ 100000000 * 1024 := Nat.mul_le_mul (by simpa using hb) hby
  have hn2 := nbeq h12
  have hn3 := nbeq h13
  refine w_split i hL ?_
  have g0 : getL (setL L i H0) i = some H0 := getL_set hL
  refine s_append (i + 1) (ys := el.cells a dv) (m := 1) hx hy o1 (show getL (_ :: setL L i H0) (i + 1) = some H0 from g0) hz hk0 (by rw [el.klen, Nat.one_mul]) h1 (fun w hw => ⟨_, _, rfl, fun j q hj => ?_⟩) (by omega) (by simp at hb; omega) hd (fun v' H0' h => ?_)
  · rw [Addr.add_lit, Nat.zero_add]
    exact hw.captured (i := i2 + 1) (show getL (_ :: setL L i H0) (i2 + 1) = _ by show getL (setL L i H0) i2 = _; rw [getL_other hn2]; exact hL2) j q hj
  · show WPL P n lo s ops Q rest _ ((tpiece T ++ G) :: setL (setL L i H0) i H0')
    rw [setL_twice]
    have o3 : OElems el e v' ((T ++ [(a, dv, Ha)]).map (·.1)) (H0' ++ (tpiece (T ++ [(a, dv, Ha)]) ++ G)) := OElems.ofTri (by rw [tcells_append, tcells_one, List.length_append]; exact h) (fun t ht => by
      rcases List.mem_append.1 ht with ht | ht
      · exact o2 t ht
      · rw [List.mem_singleton] at ht; subst ht; exact ha)
    rw [List.map_append] at o3
    refine w_perm ?_ (k v' _ o3)
    rw [tpiece_append, tpiece_one]
    have hLi : getL (setL L i3 []) i = some (H0 ++ (tpiece T ++ G)) := by rw [getL_other (Ne.symm hn3)]; exact hL
    have g3 : getL (setL L i H0') i3 = some Ha := by rw [getL_other hn3]; exact hL3
    have e1 := setL_flat g3
    rw [setL_comm L _ _ hn3] at e1 ⊢
    have e2 := setL_put (H' := H0') hLi
    have e3 := setL_put (H' := H0' ++ (tpiece T ++ Ha ++ G)) hLi
    rw [List.flatten_cons]
    exact (List.Perm.append_left _ (e1.trans (List.Perm.append_left _ e2))).trans ((perm5 _ _ _ _ _).trans e3.symm)
end
end Go.Proofs.YtfmjeakcfmmkfaaGreat
/-
  Contracts: the laws' own helpers on regions that are arguments.
-/
set_option linter.unusedVariables false
namespace Go.Proofs.YtfmjeakcfmmkfaaGreat
open Go Sx Go.ChangeShapes Go.WideShapes Go.ChangeAt Go.RowKit
attribute [local irreducible] Exit.then Exit.inBlock bodyPost
def eReg : SElem (List DRect) where
  k := 1
  dflt := []
  cells := fun _ d => [d]
  klen := fun _ _ => rfl
  rd := fun w d l => RRects w d l
  own := fun d l H => ORects d l H
  keep := fun h hw => RVs.keep h hw
  reads := fun h hw => ORects.rd h hw
theorem eReg_dflt : eReg.dflt = [] := rfl
theorem RRects.one {w : World} {v : Value} {l : List DRect} (h : RRects w v l) : v.oneCell' = true := by
  obtain ⟨a, q, rfl⟩ := h.form; rfl
theorem open_rect {W : World} {cs : List Value} (h : SRd Tryz.prog W 188 cs) : ∃ r : DRect, cs = cRect r := by
  obtain ⟨l, q⟩ := h.struct
  obtain ⟨x0, g0, _⟩ := (SRd.sub q 0 0 3 rfl).int
  obtain ⟨x1, g1, _⟩ := (SRd.sub q 1 1 3 rfl).int
  obtain ⟨x2, g2, _⟩ := (SRd.sub q 2 2 3 rfl).int
  obtain ⟨x3, g3, _⟩ := (SRd.sub q 3 3 3 rfl).int
  exact ⟨⟨x0, x1, x2, x3⟩, cells_eq l rfl (fun k hk => match k, hk with | 0, _ => take1 g0 | 1, _ => take1 g1 | 2, _ => take1 g2 | 3, _ => take1 g3 | k + 4, hk => absurd hk (by omega))⟩
theorem open_rects {W : World} {v : Value} {n : Nat} {rows : Nat → List Value} (hr : RRow W v 4 n rows) (h : ∀ i, i < n → ∃ r : DRect, rows i = cRect r) : ∃ l, RRects W v l := by
  obtain ⟨l, hl, hlr⟩ := rows_list (fun cs (r : DRect) => cs = cRect r) DRect.zero n rows h
  exact ⟨l, hr.congr hl (fun i hi => (hlr i hi).symm)⟩
theorem open_region {W : World} {cs : List Value} (h : SRd Tryz.prog W 79 cs) : ∃ (l : List DRect) (v : Value), cs = [v] ∧ RRects W v l := by
  obtain ⟨l, q⟩ := h.struct
  obtain ⟨v, n, rows, g0, hr, hel⟩ := (SRd.sub q 0 0 77 rfl).slice (by decide)
  obtain ⟨ss, he⟩ := open_rects hr (fun i hi => open_rect (hel i hi))
  exact ⟨ss, v, cells_eq l rfl (fun k hk => match k, hk with | 0, _ => take1 g0 | k + 1, hk => absurd hk (by omega)), he⟩
theorem c_toRect (r : DRect) (W : World) : SYields Tryz.prog 186 #[vRect r] (vRect r) W := by
  (first | apply SYields.mk | apply SYieldsF.mk | skip); refine s_enter Tryz.func186 rfl Tryz.ntmps186 rfl ?_
  repeat' (first | exact rfl | (apply kO; (first | exact ov_pure rfl | (apply kOBin; (first | exact aBin)) | (apply kOCall; (first | (apply kCallB; (first | exact aBlt | exact aLenR)))) | (apply kOLoad; (first | exact aLdF | exact aLdR)) | exact ov_fieldAddr rfl | (apply kOIdx; (first | exact aIdx)) | exact aRest | exact aNew | exact (ov_field1 (ft := 31) rfl rfl rfl rfl))) | (refine kN ?_; (first | (refine kStore ?_; (first | refine s_store1 _ rfl rfl gpA rfl (by rfl) ?_ | refine s_storeS _ rfl rfl gpA rfl rfl (by rfl) ?_ | refine s_storeS _ rfl rfl gpA rfl (ones_img oiA) (by rfl) ?_)) | refine s_boxS rfl rfl (fun b hb => ?_) | refine s_allocS rfl (fun b hb => ?_) | refine s_box1 rfl rfl rfl (fun b hb => ?_) | refine s_alloc1 rfl rfl (fun b hb => ?_) | refine s_buildSlice0 rfl (fun b hb => ?_) | refine s_buildSlice rfl rfl rfl rfl rfl (fun b hb => ?_) | apply s_step)) | (refine kG ?_; (first | refine s_gyes rfl rfl rfl ?_ | refine s_gno rfl rfl rfl rfl rfl ?_ | ((first | refine s_split_d rfl rfl (fun h => ?_) (fun h => ?_) | refine s_split_n rfl rfl (fun h => ?_) (fun h => ?_)) <;> (try (first | contradiction | (exfalso; omega)))) | refine s_split_nb rfl rfl (fun h => ?_) (fun h => ?_) | refine s_split rfl rfl (fun h => ?_) (fun h => ?_))) | refine l_then ?_ | (refine kC ?_; (first | refine c_seq ?_ | refine c_regionN rfl ?_ | refine c_ret ?_ | (refine kCond ?_; (first | refine c_cond_t rfl ?_ | refine c_cond_f rfl ?_ | ((first | refine c_cond_d rfl (fun h => ?_) (fun h => ?_) | refine c_cond_n rfl (fun h => ?_) (fun h => ?_)) <;> (try (first | contradiction | (exfalso; omega)))) | refine c_cond_nb rfl (fun h => ?_) (fun h => ?_) | refine c_cond rfl (fun h => ?_) (fun h => ?_))) | refine c_block ?_ | refine c_skip ?_ | refine c_exit ?_ | refine c_regionQN rfl rfl (by decide +kernel) ?_)) | apply s_stepQ | (refine kQG ?_; (first | refine s_gyesQ rfl rfl rfl ?_ | refine s_gnoQ rfl rfl rfl rfl rfl ?_ | ((first | refine s_splitQ_d rfl rfl (fun h => ?_) (fun h => ?_) | refine s_splitQ_n rfl rfl (fun h => ?_) (fun h => ?_)) <;> (try (first | contradiction | (exfalso; omega)))) | refine s_splitQ_nb rfl rfl (fun h => ?_) (fun h => ?_) | refine s_splitQ rfl rfl (fun h => ?_) (fun h => ?_))) | refine lQ_then ?_ | refine lQ_ends ?_ | (refine kE ?_; (first | refine e_then_r ?_ | refine e_block_r ?_ | refine e_then_n ?_ | refine e_then_x ?_ | refine e_block_n ?_ | refine e_block_x ?_ | refine e_block_y rfl ?_)) | refine l_ends ?_)
  all_goals (refine kE ?_; refine s_leaveSF rfl rfl rfl fwA (fun w hw => ?_))
  all_goals exact ⟨rfl, hw.below⟩
theorem rzero_set (b : Nat) {l : List DRect} {j : Nat} (h : j < l.length) : (l.take j ++ List.replicate (l.length - j) DRect.zero).set j (l.getD j DRect.zero) = l.take (j + 1) ++ List.replicate (l.length - (j + 1)) DRect.zero := by
  rw [List.set_append_right _ _ (by rw [List.length_take]; omega), List.length_take, show j - min j l.length = 0 by omega, show l.length - j = (l.length - (j + 1)) + 1 by omega, List.replicate_succ, List.set_cons_zero, take_getD DRect.zero h, List.append_assoc]; rfl
theorem rzero_cells : ∀ n : Nat, (List.replicate n [Value.int .i64 0, .int .i64 0, .int .i64 0, .int .i64 0]).flatten = (List.replicate n DRect.zero).flatMap cRect
  | 0 => rfl
  | n + 1 => by rw [List.replicate_succ, List.flatten_cons, rzero_cells n, List.replicate_succ, List.flatMap_cons]; rfl
set_option maxHeartbeats 4000000 in
theorem c_toRectS (v : Value) (l : List DRect) (W : World) (hv : RRects W v l) (hl : l.length ≤ 1048576) : SYieldsF Tryz.prog 111 #[v] (fun u H => ORects u l H) W := by
  have hln : ∀ j, j ≤ l.length → (l.take j ++ List.replicate (l.length - j) DRect.zero).length = l.length := fun j hj => by simp; omega
  (first | apply SYields.mk | apply SYieldsF.mk | skip); refine s_enter Tryz.func111 rfl Tryz.ntmps111 rfl ?_
  repeat' (first | exact rfl | (apply kO; (first | exact ov_pure rfl | (apply kOBin; (first | exact aBin)) | (apply kOCall; (first | (apply kCallF; (first | exact (ov_call rfl (fun w hw => c_toRect _ w)))) | (apply kCallB; (first | exact aBlt | exact (ov_lenR (fun w hw => RRow.keep hv (hw.cells rfl)) rfl) | exact aLenR)))) | (apply kOLoad; (first | exact (ov_ldRZ (fun w hw => RRow.keep hv (hw.cells rfl)) rfl rfl (by omega) rfl) | exact aLdF | exact aLdR)) | exact ov_fieldAddr rfl | (apply kOIdx; (first | exact (ov_idxR (fun w hw => RRow.keep hv (hw.cells rfl)) rfl rfl (by omega)) | exact aIdx)) | exact aRest | exact aNew | exact (ov_field1 (ft := 31) rfl rfl rfl rfl))) | (refine kN ?_; (first | (refine kStore ?_; (first | (refine s_setVs _ (v := .slice (some ⟨b, 0, none⟩) l.length l.length) (c := cRect) (kk := 4) (a := l.getD j.1 DRect.zero) rfl rfl (by assumption) gpA (fun _ => rfl) rfl (by rw [hln _ hj1]; omega) (fun H' hu => ?_)) | refine s_store1 _ rfl rfl gpA rfl (by rfl) ?_ | refine s_storeS _ rfl rfl gpA rfl rfl (by rfl) ?_ | refine s_storeS _ rfl rfl gpA rfl (ones_img oiA) (by rfl) ?_)) | refine s_boxS rfl rfl (fun b hb => ?_) | refine s_allocS rfl (fun b hb => ?_) | refine s_box1 rfl rfl rfl (fun b hb => ?_) | refine s_alloc1 rfl rfl (fun b hb => ?_) | (refine kWMake ?_; (refine s_makeS rfl rfl rfl (by decide) ⟨by omega, by omega, by omega⟩ (by omega) rfl (fun b hb => ?_))) | refine s_buildSlice0 rfl (fun b hb => ?_) | refine s_buildSlice rfl rfl rfl rfl rfl (fun b hb => ?_) | apply s_step)) | (refine kG ?_; (first | refine s_gyes rfl rfl rfl ?_ | refine s_gno rfl rfl rfl rfl rfl ?_ | ((first | refine s_split_d rfl rfl (fun h => ?_) (fun h => ?_) | refine s_split_n rfl rfl (fun h => ?_) (fun h => ?_)) <;> (try (first | contradiction | (exfalso; omega)))) | refine s_split_nb rfl rfl (fun h => ?_) (fun h => ?_) | refine s_split rfl rfl (fun h => ?_) (fun h => ?_))) | refine l_then ?_ | (refine kC ?_; (first | (refine c_loopV (ι := Nat × SPiece) (fun j => j.1 ≤ l.length ∧ ORects (.slice (some ⟨b, 0, none⟩) l.length l.length) (l.take j.1 ++ List.replicate (l.length - j.1) DRect.zero) j.2) (fun j => [(4, .int .i64 (j.1 : Int))]) (fun j => [j.2]) (fun j => l.length - j.1) (0, _) ⟨by dsimp only; omega, by dsimp only; rw [List.take_zero, List.nil_append, Nat.sub_zero]; have := OVs.whole (c := cRect) (k := 4) (T := 123) (fun _ => rfl) b (List.replicate l.length DRect.zero) (by rw [List.length_replicate]; unfold maxLen; omega); rw [List.length_replicate] at this; exact this⟩ rfl (fun _ => rfl) ⟨rfl, trivial⟩ (fun w hw => by rw [← rzero_cells]; simpa using hw) (fun j hj => ?_); obtain ⟨hj1, hj2⟩ := hj) | refine c_seq ?_ | refine c_regionN rfl ?_ | refine c_ret ?_ | (refine kCond ?_; (first | refine c_cond_t rfl ?_ | refine c_cond_f rfl ?_ | ((first | refine c_cond_d rfl (fun h => ?_) (fun h => ?_) | refine c_cond_n rfl (fun h => ?_) (fun h => ?_)) <;> (try (first | contradiction | (exfalso; omega)))) | refine c_cond_nb rfl (fun h => ?_) (fun h => ?_) | refine c_cond rfl (fun h => ?_) (fun h => ?_))) | refine c_block ?_ | refine c_skip ?_ | refine c_exit ?_ | refine c_regionQN rfl rfl (by decide +kernel) ?_)) | apply s_stepQ | (refine kQG ?_; (first | refine s_gyesQ rfl rfl rfl ?_ | refine s_gnoQ rfl rfl rfl rfl rfl ?_ | ((first | refine s_splitQ_d rfl rfl (fun h => ?_) (fun h => ?_) | refine s_splitQ_n rfl rfl (fun h => ?_) (fun h => ?_)) <;> (try (first | contradiction | (exfalso; omega)))) | refine s_splitQ_nb rfl rfl (fun h => ?_) (fun h => ?_) | refine s_splitQ rfl rfl (fun h => ?_) (fun h => ?_))) | refine lQ_then ?_ | refine lQ_ends ?_ | (refine kE ?_; (first | refine e_then_r ?_ | refine e_block_r ?_ | refine e_then_n ?_ | refine e_then_x ?_ | refine e_block_n ?_ | refine e_block_x ?_ | refine e_block_y rfl ?_)) | refine l_ends ?_)
  · rw [Int.toNat_natCast, rzero_set b (by omega)] at hu
    exact e_round (j.1 + 1, H') ⟨by dsimp only; omega, hu⟩ ⟨rfl, (by repeat' first | exact trivial | refine ⟨rfl, ?_⟩)⟩ (fun w hw => hw) (by dsimp only; omega)
  · rw [show j.1 = l.length by omega, List.take_length, Nat.sub_self, List.replicate_zero, List.append_nil] at hj2
    exact s_leave1 rfl rfl (fun w hw => ⟨_, _, rfl, hj2, hw.toFresh (H := j.2) gpA⟩)
theorem c_toRegion (v : Value) (l : List DRect) (W : World) (hv : RRects W v l) (hl : l.length ≤ 1048576) : SYieldsF Tryz.prog 44 #[vReg v] (fun u H => OReg u l H) W := by
  (first | apply SYields.mk | apply SYieldsF.mk | skip); refine s_enter Tryz.func44 rfl Tryz.ntmps44 rfl ?_
  repeat' (first | exact rfl | (apply kO; (first | exact ov_pure rfl | (apply kOBin; (first | exact aBin)) | (apply kOCall; (first | (apply kCallB; (first | exact aBlt | exact aLenR)))) | (apply kOLoad; (first | exact aLdF | exact aLdR)) | exact ov_fieldAddr rfl | (apply kOIdx; (first | exact aIdx)) | exact aRest | exact aNew | exact (ov_field1 (ft := 31) rfl rfl rfl rfl))) | (refine kN ?_; (first | (refine kCall ?_; (first | (refine kWFn 111 ?_; (refine s_callF (fun u H => ORects u l H) rfl (fun w hw => c_toRectS _ _ w (RVs.keep hv (hw.cells rfl)) hl) rfl (fun u H hu => ?_); have f1 := hu.form; obtain ⟨_, _, rfl⟩ := f1)) | apply s_step)) | (refine kStore ?_; (first | (refine s_storeS _ rfl rfl gpA rfl (ones_cons (OVs.one (by assumption)) rfl) (by rfl) ?_) | (refine s_store1 _ rfl rfl gpA (OVs.one (by assumption)) (by rfl) ?_) | refine s_store1 _ rfl rfl gpA rfl (by rfl) ?_ | refine s_storeS _ rfl rfl gpA rfl rfl (by rfl) ?_ | refine s_storeS _ rfl rfl gpA rfl (ones_img oiA) (by rfl) ?_)) | refine s_boxS rfl rfl (fun b hb => ?_) | refine s_allocS rfl (fun b hb => ?_) | refine s_box1 rfl rfl rfl (fun b hb => ?_) | refine s_alloc1 rfl rfl (fun b hb => ?_) | refine s_buildSlice0 rfl (fun b hb => ?_) | refine s_buildSlice rfl rfl rfl rfl rfl (fun b hb => ?_) | apply s_step)) | (refine kG ?_; (first | refine s_gyes rfl rfl rfl ?_ | refine s_gno rfl rfl rfl rfl rfl ?_ | ((first | refine s_split_d rfl rfl (fun h => ?_) (fun h => ?_) | refine s_split_n rfl rfl (fun h => ?_) (fun h => ?_)) <;> (try (first | contradiction | (exfalso; omega)))) | refine s_split_nb rfl rfl (fun h => ?_) (fun h => ?_) | refine s_split rfl rfl (fun h => ?_) (fun h => ?_))) | refine l_then ?_ | (refine kC ?_; (first | refine c_seq ?_ | refine c_regionN rfl ?_ | refine c_ret ?_ | (refine kCond ?_; (first | refine c_cond_t rfl ?_ | refine c_cond_f rfl ?_ | ((first | refine c_cond_d rfl (fun h => ?_) (fun h => ?_) | refine c_cond_n rfl (fun h => ?_) (fun h => ?_)) <;> (try (first | contradiction | (exfalso; omega)))) | refine c_cond_nb rfl (fun h => ?_) (fun h => ?_) | refine c_cond rfl (fun h => ?_) (fun h => ?_))) | refine c_block ?_ | refine c_skip ?_ | refine c_exit ?_ | refine c_regionQN rfl rfl (by decide +kernel) ?_)) | apply s_stepQ | (refine kQG ?_; (first | refine s_gyesQ rfl rfl rfl ?_ | refine s_gnoQ rfl rfl rfl rfl rfl ?_ | ((first | refine s_splitQ_d rfl rfl (fun h => ?_) (fun h => ?_) | refine s_splitQ_n rfl rfl (fun h => ?_) (fun h => ?_)) <;> (try (first | contradiction | (exfalso; omega)))) | refine s_splitQ_nb rfl rfl (fun h => ?_) (fun h => ?_) | refine s_splitQ rfl rfl (fun h => ?_) (fun h => ?_))) | refine lQ_then ?_ | refine lQ_ends ?_ | (refine kE ?_; (first | refine e_then_r ?_ | refine e_block_r ?_ | refine e_then_n ?_ | refine e_then_x ?_ | refine e_block_n ?_ | refine e_block_x ?_ | refine e_block_y rfl ?_)) | refine l_ends ?_)
  all_goals (refine kE ?_; refine s_leaveSF rfl rfl rfl fwA (fun w hw => ?_))
  all_goals exact ⟨_, _, rfl, ⟨_, rfl, hu⟩, hw.toFresh (H := H) gpA⟩
theorem c_szRectS (v : Value) (l : List DRect) (left : Int) (w : World) (hv : RRects w v l) (hl : 0 ≤ left ∧ left ≤ 1048576) : SYields Tryz.prog 108 #[v, .int .i64 left] (.int .i64 (szI l.length left)) w := by
  have hk := hv.len
  (first | apply SYields.mk | apply SYieldsF.mk | skip); refine s_enter Tryz.func108 rfl Tryz.ntmps108 rfl ?_
  repeat' (first | exact rfl | (apply kO; (first | exact ov_pure rfl | (apply kOBin; (first | exact aBin)) | (apply kOCall; (first | (apply kCallB; (first | exact aBlt | exact (ov_lenR (fun w hw => RRow.keep hv (hw.cells rfl)) rfl) | exact aLenR)))) | (apply kOLoad; (first | exact aLdF | exact aLdR)) | exact ov_fieldAddr rfl | (apply kOIdx; (first | exact aIdx)) | exact aRest | exact aNew | exact (ov_field1 (ft := 31) rfl rfl rfl rfl))) | (refine kN ?_; (first | (refine kStore ?_; (first | refine s_store1 _ rfl rfl gpA rfl (by rfl) ?_ | refine s_storeS _ rfl rfl gpA rfl rfl (by rfl) ?_ | refine s_storeS _ rfl rfl gpA rfl (ones_img oiA) (by rfl) ?_)) | refine s_boxS rfl rfl (fun b hb => ?_) | refine s_allocS rfl (fun b hb => ?_) | refine s_box1 rfl rfl rfl (fun b hb => ?_) | refine s_alloc1 rfl rfl (fun b hb => ?_) | refine s_buildSlice0 rfl (fun b hb => ?_) | refine s_buildSlice rfl rfl rfl rfl rfl (fun b hb => ?_) | apply s_step)) | (refine kG ?_; (first | refine s_gyes rfl rfl rfl ?_ | refine s_gno rfl rfl rfl rfl rfl ?_ | ((first | refine s_split_d rfl rfl (fun h => ?_) (fun h => ?_) | refine s_split_n rfl rfl (fun h => ?_) (fun h => ?_)) <;> (try (first | contradiction | (exfalso; omega)))) | refine s_split_nb rfl rfl (fun h => ?_) (fun h => ?_) | refine s_split rfl rfl (fun h => ?_) (fun h => ?_))) | refine l_then ?_ | (refine kC ?_; (first | refine c_seq ?_ | refine c_regionN rfl ?_ | refine c_ret ?_ | (refine kCond ?_; (first | refine c_cond_t rfl ?_ | refine c_cond_f rfl ?_ | ((first | refine c_cond_d rfl (fun h => ?_) (fun h => ?_) | refine c_cond_n rfl (fun h => ?_) (fun h => ?_)) <;> (try (first | contradiction | (exfalso; omega)))) | refine c_cond_nb rfl (fun h => ?_) (fun h => ?_) | refine c_cond rfl (fun h => ?_) (fun h => ?_))) | refine c_block ?_ | refine c_skip ?_ | refine c_exit ?_ | refine c_regionQN rfl rfl (by decide +kernel) ?_)) | apply s_stepQ | (refine kQG ?_; (first | refine s_gyesQ rfl rfl rfl ?_ | refine s_gnoQ rfl rfl rfl rfl rfl ?_ | ((first | refine s_splitQ_d rfl rfl (fun h => ?_) (fun h => ?_) | refine s_splitQ_n rfl rfl (fun h => ?_) (fun h => ?_)) <;> (try (first | contradiction | (exfalso; omega)))) | refine s_splitQ_nb rfl rfl (fun h => ?_) (fun h => ?_) | refine s_splitQ rfl rfl (fun h => ?_) (fun h => ?_))) | refine lQ_then ?_ | refine lQ_ends ?_ | (refine kE ?_; (first | refine e_then_r ?_ | refine e_block_r ?_ | refine e_then_n ?_ | refine e_then_x ?_ | refine e_block_n ?_ | refine e_block_x ?_ | refine e_block_y rfl ?_)) | refine l_ends ?_)
  all_goals refine s_leave1 rfl rfl (fun w hw => ⟨?_, hw.below⟩)
  all_goals (refine ret_int ?_; unfold szI at *; (repeat' split at *) <;> omega)
theorem c_szRegion (v : Value) (l : List DRect) (left : Int) (w : World) (hv : RRects w v l) (hl : 0 ≤ left ∧ left ≤ 1048576) : SYields Tryz.prog 41 #[vReg v, .int .i64 left] (.int .i64 (szI l.length left)) w := by
  have hk := hv.len
  (first | apply SYields.mk | apply SYieldsF.mk | skip); refine s_enter Tryz.func41 rfl Tryz.ntmps41 rfl ?_
  repeat' (first | exact rfl | (apply kO; (first | exact ov_pure rfl | (apply kOBin; (first | exact aBin)) | (apply kOCall; (first | (apply kCallF; (first | exact (ov_call rfl (fun w hw => c_szRectS _ _ _ w (RVs.keep hv (hw.cells rfl)) (by omega))))) | (apply kCallB; (first | exact aBlt | exact aLenR)))) | (apply kOLoad; (first | exact aLdF | exact aLdR)) | exact ov_fieldAddr rfl | (apply kOIdx; (first | exact aIdx)) | exact aRest | exact aNew | exact (ov_field1 (ft := 31) rfl rfl rfl rfl))) | (refine kN ?_; (first | (refine kStore ?_; (first | refine s_store1 _ rfl rfl gpA rfl (by rfl) ?_ | refine s_storeS _ rfl rfl gpA rfl rfl (by rfl) ?_ | refine s_storeS _ rfl rfl gpA rfl (ones_img oiA) (by rfl) ?_)) | refine s_boxS rfl rfl (fun b hb => ?_) | refine s_allocS rfl (fun b hb => ?_) | refine s_box1 rfl rfl rfl (fun b hb => ?_) | refine s_alloc1 rfl rfl (fun b hb => ?_) | refine s_buildSlice0 rfl (fun b hb => ?_) | refine s_buildSlice rfl rfl rfl rfl rfl (fun b hb => ?_) | apply s_step)) | (refine kG ?_; (first | refine s_gyes rfl rfl rfl ?_ | refine s_gno rfl rfl rfl rfl rfl ?_ | ((first | refine s_split_d rfl rfl (fun h => ?_) (fun h => ?_) | refine s_split_n rfl rfl (fun h => ?_) (fun h => ?_)) <;> (try (first | contradiction | (exfalso; omega)))) | refine s_split_nb rfl rfl (fun h => ?_) (fun h => ?_) | refine s_split rfl rfl (fun h => ?_) (fun h => ?_))) | refine l_then ?_ | (refine kC ?_; (first | refine c_seq ?_ | refine c_regionN rfl ?_ | refine c_ret ?_ | (refine kCond ?_; (first | refine c_cond_t rfl ?_ | refine c_cond_f rfl ?_ | ((first | refine c_cond_d rfl (fun h => ?_) (fun h => ?_) | refine c_cond_n rfl (fun h => ?_) (fun h => ?_)) <;> (try (first | contradiction | (exfalso; omega)))) | refine c_cond_nb rfl (fun h => ?_) (fun h => ?_) | refine c_cond rfl (fun h => ?_) (fun h => ?_))) | refine c_block ?_ | refine c_skip ?_ | refine c_exit ?_ | refine c_regionQN rfl rfl (by decide +kernel) ?_)) | apply s_stepQ | (refine kQG ?_; (first | refine s_gyesQ rfl rfl rfl ?_ | refine s_gnoQ rfl rfl rfl rfl rfl ?_ | ((first | refine s_splitQ_d rfl rfl (fun h => ?_) (fun h => ?_) | refine s_splitQ_n rfl rfl (fun h => ?_) (fun h => ?_)) <;> (try (first | contradiction | (exfalso; omega)))) | refine s_splitQ_nb rfl rfl (fun h => ?_) (fun h => ?_) | refine s_splitQ rfl rfl (fun h => ?_) (fun h => ?_))) | refine lQ_then ?_ | refine lQ_ends ?_ | (refine kE ?_; (first | refine e_then_r ?_ | refine e_block_r ?_ | refine e_then_n ?_ | refine e_then_x ?_ | refine e_block_n ?_ | refine e_block_x ?_ | refine e_block_y rfl ?_)) | refine l_ends ?_)
  all_goals refine s_leave1 rfl rfl (fun w hw => ⟨?_, hw.below⟩)
  all_goals (refine ret_int ?_; unfold szI at *; (repeat' split at *) <;> omega)
end Go.Proofs.YtfmjeakcfmmkfaaGreat
/-
  Contracts: faded pixels; places in oriented and in scaled pictures.
-/
set_option linter.unusedVariables false
namespace Go.Proofs.YtfmjeakcfmmkfaaGreat
open Go Sx
attribute [local irreducible] Exit.then Exit.inBlock bodyPost
theorem c_ipart (a c : Int) (w : World) : SYields Tryz.prog 219 #[.int .i64 a, .int .i64 c] (.int .i64 (prt a c)) w := by
  have hm := fun (h1 : 0 ≤ a ∧ a ≤ 255) (h2 : 0 ≤ c ∧ c ≤ 255) => mul_bd h1 h2
  (first | apply SYields.mk | apply SYieldsF.mk | skip); refine s_enter Tryz.func219 rfl Tryz.ntmps219 rfl ?_
  repeat' (first | exact rfl | (apply kO; (first | exact ov_pure rfl | (apply kOBin; (first | exact aBin | exact (ov_mul rfl rfl (by have := hm (by omega) (by omega); omega)) | exact (ov_add rfl rfl (by have := hm (by omega) (by omega); omega)) | exact (ov_quo rfl rfl (by have := hm (by omega) (by omega); omega)))) | (apply kOCall; (first | (apply kCallF; (first | exact (ov_call rfl (fun w hw => c_within _ _ _ w)))) | (apply kCallB; (first | exact aBlt | exact aLenR)))) | (apply kOLoad; (first | exact aLdF | exact aLdR)) | exact ov_fieldAddr rfl | (apply kOIdx; (first | exact aIdx)) | exact aRest | exact aNew | exact (ov_field1 (ft := 31) rfl rfl rfl rfl))) | (refine kN ?_; (first | (refine kStore ?_; (first | refine s_store1 _ rfl rfl gpA rfl (by rfl) ?_ | refine s_storeS _ rfl rfl gpA rfl rfl (by rfl) ?_ | refine s_storeS _ rfl rfl gpA rfl (ones_img oiA) (by rfl) ?_)) | refine s_boxS rfl rfl (fun b hb => ?_) | refine s_allocS rfl (fun b hb => ?_) | refine s_box1 rfl rfl rfl (fun b hb => ?_) | refine s_alloc1 rfl rfl (fun b hb => ?_) | refine s_buildSlice0 rfl (fun b hb => ?_) | refine s_buildSlice rfl rfl rfl rfl rfl (fun b hb => ?_) | apply s_step)) | (refine kG ?_; (first | refine s_gyes rfl rfl rfl ?_ | refine s_gno rfl rfl rfl rfl rfl ?_ | ((first | refine s_split_d rfl rfl (fun h => ?_) (fun h => ?_) | refine s_split_n rfl rfl (fun h => ?_) (fun h => ?_)) <;> (try (first | contradiction | (exfalso; omega)))) | refine s_split_nb rfl rfl (fun h => ?_) (fun h => ?_) | refine s_split rfl rfl (fun h => ?_) (fun h => ?_))) | refine l_then ?_ | (refine kC ?_; (first | refine c_seq ?_ | refine c_regionN rfl ?_ | refine c_ret ?_ | (refine kCond ?_; (first | refine c_cond_t rfl ?_ | refine c_cond_f rfl ?_ | ((first | refine c_cond_d rfl (fun h => ?_) (fun h => ?_) | refine c_cond_n rfl (fun h => ?_) (fun h => ?_)) <;> (try (first | contradiction | (exfalso; omega)))) | refine c_cond_nb rfl (fun h => ?_) (fun h => ?_) | refine c_cond rfl (fun h => ?_) (fun h => ?_))) | refine c_block ?_ | refine c_skip ?_ | refine c_exit ?_ | refine c_regionQN rfl rfl (by decide +kernel) ?_)) | apply s_stepQ | (refine kQG ?_; (first | refine s_gyesQ rfl rfl rfl ?_ | refine s_gnoQ rfl rfl rfl rfl rfl ?_ | ((first | refine s_splitQ_d rfl rfl (fun h => ?_) (fun h => ?_) | refine s_splitQ_n rfl rfl (fun h => ?_) (fun h => ?_)) <;> (try (first | contradiction | (exfalso; omega)))) | refine s_splitQ_nb rfl rfl (fun h => ?_) (fun h => ?_) | refine s_splitQ rfl rfl (fun h => ?_) (fun h => ?_))) | refine lQ_then ?_ | refine lQ_ends ?_ | (refine kE ?_; (first | refine e_then_r ?_ | refine e_block_r ?_ | refine e_then_n ?_ | refine e_then_x ?_ | refine e_block_n ?_ | refine e_block_x ?_ | refine e_block_y rfl ?_)) | refine l_ends ?_)
  all_goals refine s_leave1 rfl rfl (fun w hw => ⟨?_, hw.below⟩)
  all_goals (refine ret_int ?_; unfold prt byteP; first | (rw [if_neg (by omega)]; done) | rw [if_pos ⟨by omega, by omega⟩])
theorem c_ifade (p a : Int) (w : World) : SYields Tryz.prog 235 #[.int .i64 p, .int .i64 a] (.int .i64 (fade p a)) w := by
  have hp := fun (h : byteP a) => prt_bd (chan_bd p 0) h
  (first | apply SYields.mk | apply SYieldsF.mk | skip); refine s_enter Tryz.func235 rfl Tryz.ntmps235 rfl ?_
  repeat' (first | exact rfl | (apply kO; (first | exact ov_pure rfl | (apply kOBin; (first | exact aBin | exact (ov_shlN 24 16777216 (by decide) (by decide) rfl rfl (by have := hp (by unfold byteP; omega); omega)) | exact (ov_orS 24 (p := 16777216) (by decide) rfl rfl (by have := hp (by unfold byteP; omega); omega) (by omega)) | exact (ov_add rfl rfl (by have := hp (by unfold byteP; omega); omega)))) | (apply kOCall; (first | (apply kCallF; (first | exact (ov_call rfl (fun w hw => c_within _ _ _ w)) | exact (ov_call rfl (fun w hw => c_isPixel _ w)) | exact (ov_call rfl (fun w hw => c_channel _ _ w (by omega))) | exact (ov_call rfl (fun w hw => c_ipart _ _ w)))) | (apply kCallB; (first | exact aBlt | exact aLenR)))) | (apply kOLoad; (first | exact aLdF | exact aLdR)) | exact ov_fieldAddr rfl | (apply kOIdx; (first | exact aIdx)) | exact aRest | exact aNew | exact (ov_field1 (ft := 31) rfl rfl rfl rfl))) | (refine kN ?_; (first | (refine kStore ?_; (first | refine s_store1 _ rfl rfl gpA rfl (by rfl) ?_ | refine s_storeS _ rfl rfl gpA rfl rfl (by rfl) ?_ | refine s_storeS _ rfl rfl gpA rfl (ones_img oiA) (by rfl) ?_)) | refine s_boxS rfl rfl (fun b hb => ?_) | refine s_allocS rfl (fun b hb => ?_) | refine s_box1 rfl rfl rfl (fun b hb => ?_) | refine s_alloc1 rfl rfl (fun b hb => ?_) | refine s_buildSlice0 rfl (fun b hb => ?_) | refine s_buildSlice rfl rfl rfl rfl rfl (fun b hb => ?_) | apply s_step)) | (refine kG ?_; (first | refine s_gyes rfl rfl rfl ?_ | refine s_gno rfl rfl rfl rfl rfl ?_ | ((first | refine s_split_d rfl rfl (fun h => ?_) (fun h => ?_) | refine s_split_n rfl rfl (fun h => ?_) (fun h => ?_)) <;> (try (first | contradiction | (exfalso; omega)))) | refine s_split_nb rfl rfl (fun h => ?_) (fun h => ?_) | refine s_split rfl rfl (fun h => ?_) (fun h => ?_))) | refine l_then ?_ | (refine kC ?_; (first | refine c_seq ?_ | refine c_regionN rfl ?_ | refine c_ret ?_ | (refine kCond ?_; (first | refine c_cond_t rfl ?_ | refine c_cond_f rfl ?_ | ((first | refine c_cond_d rfl (fun h => ?_) (fun h => ?_) | refine c_cond_n rfl (fun h => ?_) (fun h => ?_)) <;> (try (first | contradiction | (exfalso; omega)))) | refine c_cond_nb rfl (fun h => ?_) (fun h => ?_) | refine c_cond rfl (fun h => ?_) (fun h => ?_))) | refine c_block ?_ | refine c_skip ?_ | refine c_exit ?_ | refine c_regionQN rfl rfl (by decide +kernel) ?_)) | apply s_stepQ | (refine kQG ?_; (first | refine s_gyesQ rfl rfl rfl ?_ | refine s_gnoQ rfl rfl rfl rfl rfl ?_ | ((first | refine s_splitQ_d rfl rfl (fun h => ?_) (fun h => ?_) | refine s_splitQ_n rfl rfl (fun h => ?_) (fun h => ?_)) <;> (try (first | contradiction | (exfalso; omega)))) | refine s_splitQ_nb rfl rfl (fun h => ?_) (fun h => ?_) | refine s_splitQ rfl rfl (fun h => ?_) (fun h => ?_))) | refine lQ_then ?_ | refine lQ_ends ?_ | (refine kE ?_; (first | refine e_then_r ?_ | refine e_block_r ?_ | refine e_then_n ?_ | refine e_then_x ?_ | refine e_block_n ?_ | refine e_block_x ?_ | refine e_block_y rfl ?_)) | refine l_ends ?_)
  all_goals refine s_leave1 rfl rfl (fun w hw => ⟨?_, hw.below⟩)
  all_goals (refine ret_int ?_; unfold fade; first | (rw [if_neg (by simp only [pixP, byteP]; omega)]; done) | (rw [if_pos ⟨by unfold pixP; omega, by unfold byteP; omega⟩]; done) | (rw [if_pos ⟨by unfold pixP; omega, by unfold byteP; omega⟩]; omega))
theorem c_iscalePoint (f t k : Int) (w : World) : SYields Tryz.prog 234 #[.int .i64 f, .int .i64 t, .int .i64 k] (.int .i64 (scalePoint f t k)) w := by
  have hm := fun (h1 : 0 ≤ k ∧ k ≤ 15) (h2 : 0 ≤ f ∧ f ≤ 16) => mul_bd h1 h2
  (first | apply SYields.mk | apply SYieldsF.mk | skip); refine s_enter Tryz.func234 rfl Tryz.ntmps234 rfl ?_
  repeat' (first | exact rfl | (apply kO; (first | exact ov_pure rfl | (apply kOBin; (first | exact aBin | exact (ov_mul rfl rfl (by have := hm (by omega) (by omega); omega)) | exact (ov_quo rfl rfl (by have := hm (by omega) (by omega); omega)))) | (apply kOCall; (first | (apply kCallF; (first | exact (ov_call rfl (fun w hw => c_within _ _ _ w)) | exact (ov_call rfl (fun w hw => c_isSide _ w)))) | (apply kCallB; (first | exact aBlt | exact aLenR)))) | (apply kOLoad; (first | exact aLdF | exact aLdR)) | exact ov_fieldAddr rfl | (apply kOIdx; (first | exact aIdx)) | exact aRest | exact aNew | exact (ov_field1 (ft := 31) rfl rfl rfl rfl))) | (refine kN ?_; (first | (refine kStore ?_; (first | refine s_store1 _ rfl rfl gpA rfl (by rfl) ?_ | refine s_storeS _ rfl rfl gpA rfl rfl (by rfl) ?_ | refine s_storeS _ rfl rfl gpA rfl (ones_img oiA) (by rfl) ?_)) | refine s_boxS rfl rfl (fun b hb => ?_) | refine s_allocS rfl (fun b hb => ?_) | refine s_box1 rfl rfl rfl (fun b hb => ?_) | refine s_alloc1 rfl rfl (fun b hb => ?_) | refine s_buildSlice0 rfl (fun b hb => ?_) | refine s_buildSlice rfl rfl rfl rfl rfl (fun b hb => ?_) | apply s_step)) | (refine kG ?_; (first | refine s_gyes rfl rfl rfl ?_ | refine s_gno rfl rfl rfl rfl rfl ?_ | ((first | refine s_split_d rfl rfl (fun h => ?_) (fun h => ?_) | refine s_split_n rfl rfl (fun h => ?_) (fun h => ?_)) <;> (try (first | contradiction | (exfalso; omega)))) | refine s_split_nb rfl rfl (fun h => ?_) (fun h => ?_) | refine s_split rfl rfl (fun h => ?_) (fun h => ?_))) | refine l_then ?_ | (refine kC ?_; (first | refine c_seq ?_ | refine c_regionN rfl ?_ | refine c_ret ?_ | (refine kCond ?_; (first | refine c_cond_t rfl ?_ | refine c_cond_f rfl ?_ | ((first | refine c_cond_d rfl (fun h => ?_) (fun h => ?_) | refine c_cond_n rfl (fun h => ?_) (fun h => ?_)) <;> (try (first | contradiction | (exfalso; omega)))) | refine c_cond_nb rfl (fun h => ?_) (fun h => ?_) | refine c_cond rfl (fun h => ?_) (fun h => ?_))) | refine c_block ?_ | refine c_skip ?_ | refine c_exit ?_ | refine c_regionQN rfl rfl (by decide +kernel) ?_)) | apply s_stepQ | (refine kQG ?_; (first | refine s_gyesQ rfl rfl rfl ?_ | refine s_gnoQ rfl rfl rfl rfl rfl ?_ | ((first | refine s_splitQ_d rfl rfl (fun h => ?_) (fun h => ?_) | refine s_splitQ_n rfl rfl (fun h => ?_) (fun h => ?_)) <;> (try (first | contradiction | (exfalso; omega)))) | refine s_splitQ_nb rfl rfl (fun h => ?_) (fun h => ?_) | refine s_splitQ rfl rfl (fun h => ?_) (fun h => ?_))) | refine lQ_then ?_ | refine lQ_ends ?_ | (refine kE ?_; (first | refine e_then_r ?_ | refine e_block_r ?_ | refine e_then_n ?_ | refine e_then_x ?_ | refine e_block_n ?_ | refine e_block_x ?_ | refine e_block_y rfl ?_)) | refine l_ends ?_)
  all_goals refine s_leave1 rfl rfl (fun w hw => ⟨?_, hw.below⟩)
  all_goals (refine ret_int ?_; unfold scalePoint; first | (rw [if_neg (by omega)]; done) | rw [if_pos (by omega)])
theorem c_spart (a c : Int) (w : World) : SYields Tryz.prog 182 #[.int .i64 a, .int .i64 c] (.int .i64 (prt a c)) w := by
  have hm := fun (h1 : 0 ≤ a ∧ a ≤ 255) (h2 : 0 ≤ c ∧ c ≤ 255) => mul_bd h1 h2
  (first | apply SYields.mk | apply SYieldsF.mk | skip); refine s_enter Tryz.func182 rfl Tryz.ntmps182 rfl ?_
  repeat' (first | exact rfl | (apply kO; (first | exact ov_pure rfl | (apply kOBin; (first | exact aBin | exact (ov_mul rfl rfl (by have := hm (by omega) (by omega); omega)) | exact (ov_add rfl rfl (by have := hm (by omega) (by omega); omega)) | exact (ov_quo rfl rfl (by have := hm (by omega) (by omega); omega)))) | (apply kOCall; (first | (apply kCallF; (first | exact (ov_call rfl (fun w hw => c_l01In _ _ _ w)))) | (apply kCallB; (first | exact aBlt | exact aLenR)))) | (apply kOLoad; (first | exact aLdF | exact aLdR)) | exact ov_fieldAddr rfl | (apply kOIdx; (first | exact aIdx)) | exact aRest | exact aNew | exact (ov_field1 (ft := 31) rfl rfl rfl rfl))) | (refine kN ?_; (first | (refine kStore ?_; (first | refine s_store1 _ rfl rfl gpA rfl (by rfl) ?_ | refine s_storeS _ rfl rfl gpA rfl rfl (by rfl) ?_ | refine s_storeS _ rfl rfl gpA rfl (ones_img oiA) (by rfl) ?_)) | refine s_boxS rfl rfl (fun b hb => ?_) | refine s_allocS rfl (fun b hb => ?_) | refine s_box1 rfl rfl rfl (fun b hb => ?_) | refine s_alloc1 rfl rfl (fun b hb => ?_) | refine s_buildSlice0 rfl (fun b hb => ?_) | refine s_buildSlice rfl rfl rfl rfl rfl (fun b hb => ?_) | apply s_step)) | (refine kG ?_; (first | refine s_gyes rfl rfl rfl ?_ | refine s_gno rfl rfl rfl rfl rfl ?_ | ((first | refine s_split_d rfl rfl (fun h => ?_) (fun h => ?_) | refine s_split_n rfl rfl (fun h => ?_) (fun h => ?_)) <;> (try (first | contradiction | (exfalso; omega)))) | refine s_split_nb rfl rfl (fun h => ?_) (fun h => ?_) | refine s_split rfl rfl (fun h => ?_) (fun h => ?_))) | refine l_then ?_ | (refine kC ?_; (first | refine c_seq ?_ | refine c_regionN rfl ?_ | refine c_ret ?_ | (refine kCond ?_; (first | refine c_cond_t rfl ?_ | refine c_cond_f rfl ?_ | ((first | refine c_cond_d rfl (fun h => ?_) (fun h => ?_) | refine c_cond_n rfl (fun h => ?_) (fun h => ?_)) <;> (try (first | contradiction | (exfalso; omega)))) | refine c_cond_nb rfl (fun h => ?_) (fun h => ?_) | refine c_cond rfl (fun h => ?_) (fun h => ?_))) | refine c_block ?_ | refine c_skip ?_ | refine c_exit ?_ | refine c_regionQN rfl rfl (by decide +kernel) ?_)) | apply s_stepQ | (refine kQG ?_; (first | refine s_gyesQ rfl rfl rfl ?_ | refine s_gnoQ rfl rfl rfl rfl rfl ?_ | ((first | refine s_splitQ_d rfl rfl (fun h => ?_) (fun h => ?_) | refine s_splitQ_n rfl rfl (fun h => ?_) (fun h => ?_)) <;> (try (first | contradiction | (exfalso; omega)))) | refine s_splitQ_nb rfl rfl (fun h => ?_) (fun h => ?_) | refine s_splitQ rfl rfl (fun h => ?_) (fun h => ?_))) | refine lQ_then ?_ | refine lQ_ends ?_ | (refine kE ?_; (first | refine e_then_r ?_ | refine e_block_r ?_ | refine e_then_n ?_ | refine e_then_x ?_ | refine e_block_n ?_ | refine e_block_x ?_ | refine e_block_y rfl ?_)) | refine l_ends ?_)
  all_goals refine s_leave1 rfl rfl (fun w hw => ⟨?_, hw.below⟩)
  all_goals (refine ret_int ?_; unfold prt byteP; first | (rw [if_neg (by omega)]; done) | rw [if_pos ⟨by omega, by omega⟩])
theorem c_sfade (p a : Int) (w : World) : SYields Tryz.prog 180 #[.int .i64 p, .int .i64 a] (.int .i64 (fade p a)) w := by
  have hp := fun (h : byteP a) => prt_bd (chan_bd p 0) h
  (first | apply SYields.mk | apply SYieldsF.mk | skip); refine s_enter Tryz.func180 rfl Tryz.ntmps180 rfl ?_
  repeat' (first | exact rfl | (apply kO; (first | exact ov_pure rfl | (apply kOBin; (first | exact aBin | exact (ov_shlN 24 16777216 (by decide) (by decide) rfl rfl (by have := hp (by unfold byteP; omega); omega)) | exact (ov_orS 24 (p := 16777216) (by decide) rfl rfl (by have := hp (by unfold byteP; omega); omega) (by omega)) | exact (ov_add rfl rfl (by have := hp (by unfold byteP; omega); omega)))) | (apply kOCall; (first | (apply kCallF; (first | exact (ov_call rfl (fun w hw => c_l01In _ _ _ w)) | exact (ov_call rfl (fun w hw => c_l04Pixel _ w)) | exact (ov_call rfl (fun w hw => c_schannelIn _ _ w (by omega) (by omega))) | exact (ov_call rfl (fun w hw => c_spart _ _ w)))) | (apply kCallB; (first | exact aBlt | exact aLenR)))) | (apply kOLoad; (first | exact aLdF | exact aLdR)) | exact ov_fieldAddr rfl | (apply kOIdx; (first | exact aIdx)) | exact aRest | exact aNew | exact (ov_field1 (ft := 31) rfl rfl rfl rfl))) | (refine kN ?_; (first | (refine kStore ?_; (first | refine s_store1 _ rfl rfl gpA rfl (by rfl) ?_ | refine s_storeS _ rfl rfl gpA rfl rfl (by rfl) ?_ | refine s_storeS _ rfl rfl gpA rfl (ones_img oiA) (by rfl) ?_)) | refine s_boxS rfl rfl (fun b hb => ?_) | refine s_allocS rfl (fun b hb => ?_) | refine s_box1 rfl rfl rfl (fun b hb => ?_) | refine s_alloc1 rfl rfl (fun b hb => ?_) | refine s_buildSlice0 rfl (fun b hb => ?_) | refine s_buildSlice rfl rfl rfl rfl rfl (fun b hb => ?_) | apply s_step)) | (refine kG ?_; (first | refine s_gyes rfl rfl rfl ?_ | refine s_gno rfl rfl rfl rfl rfl ?_ | ((first | refine s_split_d rfl rfl (fun h => ?_) (fun h => ?_) | refine s_split_n rfl rfl (fun h => ?_) (fun h => ?_)) <;> (try (first | contradiction | (exfalso; omega)))) | refine s_split_nb rfl rfl (fun h => ?_) (fun h => ?_) | refine s_split rfl rfl (fun h => ?_) (fun h => ?_))) | refine l_then ?_ | (refine kC ?_; (first | refine c_seq ?_ | refine c_regionN rfl ?_ | refine c_ret ?_ | (refine kCond ?_; (first | refine c_cond_t rfl ?_ | refine c_cond_f rfl ?_ | ((first | refine c_cond_d rfl (fun h => ?_) (fun h => ?_) | refine c_cond_n rfl (fun h => ?_) (fun h => ?_)) <;> (try (first | contradiction | (exfalso; omega)))) | refine c_cond_nb rfl (fun h => ?_) (fun h => ?_) | refine c_cond rfl (fun h => ?_) (fun h => ?_))) | refine c_block ?_ | refine c_skip ?_ | refine c_exit ?_ | refine c_regionQN rfl rfl (by decide +kernel) ?_)) | apply s_stepQ | (refine kQG ?_; (first | refine s_gyesQ rfl rfl rfl ?_ | refine s_gnoQ rfl rfl rfl rfl rfl ?_ | ((first | refine s_splitQ_d rfl rfl (fun h => ?_) (fun h => ?_) | refine s_splitQ_n rfl rfl (fun h => ?_) (fun h => ?_)) <;> (try (first | contradiction | (exfalso; omega)))) | refine s_splitQ_nb rfl rfl (fun h => ?_) (fun h => ?_) | refine s_splitQ rfl rfl (fun h => ?_) (fun h => ?_))) | refine lQ_then ?_ | refine lQ_ends ?_ | (refine kE ?_; (first | refine e_then_r ?_ | refine e_block_r ?_ | refine e_then_n ?_ | refine e_then_x ?_ | refine e_block_n ?_ | refine e_block_x ?_ | refine e_block_y rfl ?_)) | refine l_ends ?_)
  all_goals refine s_leave1 rfl rfl (fun w hw => ⟨?_, hw.below⟩)
  all_goals (refine ret_int ?_; unfold fade; first | (rw [if_neg (by simp only [pixP, byteP]; omega)]; done) | (rw [if_pos ⟨by unfold pixP; omega, by unfold byteP; omega⟩]; done) | (rw [if_pos ⟨by unfold pixP; omega, by unfold byteP; omega⟩]; omega))
theorem c_sscalePoint (f t k : Int) (w : World) : SYields Tryz.prog 215 #[.int .i64 f, .int .i64 t, .int .i64 k] (.int .i64 (scalePoint f t k)) w := by
  have hm := fun (h1 : 0 ≤ k ∧ k ≤ 15) (h2 : 0 ≤ f ∧ f ≤ 16) => mul_bd h1 h2
  (first | apply SYields.mk | apply SYieldsF.mk | skip); refine s_enter Tryz.func215 rfl Tryz.ntmps215 rfl ?_
  repeat' (first | exact rfl | (apply kO; (first | exact ov_pure rfl | (apply kOBin; (first | exact aBin | exact (ov_mul rfl rfl (by have := hm (by omega) (by omega); omega)) | exact (ov_quo rfl rfl (by have := hm (by omega) (by omega); omega)))) | (apply kOCall; (first | (apply kCallF; (first | exact (ov_call rfl (fun w hw => c_l01In _ _ _ w)))) | (apply kCallB; (first | exact aBlt | exact aLenR)))) | (apply kOLoad; (first | exact aLdF | exact aLdR)) | exact ov_fieldAddr rfl | (apply kOIdx; (first | exact aIdx)) | exact aRest | exact aNew | exact (ov_field1 (ft := 31) rfl rfl rfl rfl))) | (refine kN ?_; (first | (refine kStore ?_; (first | refine s_store1 _ rfl rfl gpA rfl (by rfl) ?_ | refine s_storeS _ rfl rfl gpA rfl rfl (by rfl) ?_ | refine s_storeS _ rfl rfl gpA rfl (ones_img oiA) (by rfl) ?_)) | refine s_boxS rfl rfl (fun b hb => ?_) | refine s_allocS rfl (fun b hb => ?_) | refine s_box1 rfl rfl rfl (fun b hb => ?_) | refine s_alloc1 rfl rfl (fun b hb => ?_) | refine s_buildSlice0 rfl (fun b hb => ?_) | refine s_buildSlice rfl rfl rfl rfl rfl (fun b hb => ?_) | apply s_step)) | (refine kG ?_; (first | refine s_gyes rfl rfl rfl ?_ | refine s_gno rfl rfl rfl rfl rfl ?_ | ((first | refine s_split_d rfl rfl (fun h => ?_) (fun h => ?_) | refine s_split_n rfl rfl (fun h => ?_) (fun h => ?_)) <;> (try (first | contradiction | (exfalso; omega)))) | refine s_split_nb rfl rfl (fun h => ?_) (fun h => ?_) | refine s_split rfl rfl (fun h => ?_) (fun h => ?_))) | refine l_then ?_ | (refine kC ?_; (first | refine c_seq ?_ | refine c_regionN rfl ?_ | refine c_ret ?_ | (refine kCond ?_; (first | refine c_cond_t rfl ?_ | refine c_cond_f rfl ?_ | ((first | refine c_cond_d rfl (fun h => ?_) (fun h => ?_) | refine c_cond_n rfl (fun h => ?_) (fun h => ?_)) <;> (try (first | contradiction | (exfalso; omega)))) | refine c_cond_nb rfl (fun h => ?_) (fun h => ?_) | refine c_cond rfl (fun h => ?_) (fun h => ?_))) | refine c_block ?_ | refine c_skip ?_ | refine c_exit ?_ | refine c_regionQN rfl rfl (by decide +kernel) ?_)) | apply s_stepQ | (refine kQG ?_; (first | refine s_gyesQ rfl rfl rfl ?_ | refine s_gnoQ rfl rfl rfl rfl rfl ?_ | ((first | refine s_splitQ_d rfl rfl (fun h => ?_) (fun h => ?_) | refine s_splitQ_n rfl rfl (fun h => ?_) (fun h => ?_)) <;> (try (first | contradiction | (exfalso; omega)))) | refine s_splitQ_nb rfl rfl (fun h => ?_) (fun h => ?_) | refine s_splitQ rfl rfl (fun h => ?_) (fun h => ?_))) | refine lQ_then ?_ | refine lQ_ends ?_ | (refine kE ?_; (first | refine e_then_r ?_ | refine e_block_r ?_ | refine e_then_n ?_ | refine e_then_x ?_ | refine e_block_n ?_ | refine e_block_x ?_ | refine e_block_y rfl ?_)) | refine l_ends ?_)
  all_goals refine s_leave1 rfl rfl (fun w hw => ⟨?_, hw.below⟩)
  all_goals (refine ret_int ?_; unfold scalePoint; first | (rw [if_neg (by omega)]; done) | rw [if_pos (by omega)])
theorem c_iorientPoint (wd ht o x y : Int) (W : World) : SYields Tryz.prog 232 #[.int .i64 wd, .int .i64 ht, .int .i64 o, .int .i64 x, .int .i64 y] (.tuple #[.int .i64 (orientPoint wd ht o x y).1, .int .i64 (orientPoint wd ht o x y).2]) W := by
  by_cases hok : orientOk wd ht o ∧ (0 ≤ x ∧ x ≤ wd - 1) ∧ (0 ≤ y ∧ y ≤ ht - 1)
  · have hok' := hok
    unfold orientOk at hok'
    obtain ⟨⟨hw0, hh0, ho0⟩, hx0, hy0⟩ := hok'
    have b1 := fun k => o_bd hw0 hh0 hx0 hy0 k
    have b2 := fun k => o_bd (x := wd - 1 - x) hw0 hh0 (by omega) hy0 k
    have hm : (o % 4).toNat ≤ 3 := by omega
    (first | apply SYields.mk | apply SYieldsF.mk | skip); refine s_enter Tryz.func232 rfl Tryz.ntmps232 rfl ?_
    repeat' (first | exact rfl | (apply kO; (first | exact ov_pure rfl | (apply kOBin; (first | exact aBin | exact (ov_sub rfl rfl (by first | omega | (have := b1 k; have := b2 k; omega))))) | (apply kOCall; (first | (apply kCallF; (first | exact (ov_call rfl (fun w hw => c_isSide _ w)) | exact (ov_call rfl (fun w hw => c_isOrient _ w)) | exact (ov_call rfl (fun w hw => c_within _ _ _ w)))) | (apply kCallB; (first | exact aBlt | exact aLenR)))) | (apply kOLoad; (first | exact aLdF | exact aLdR)) | exact ov_fieldAddr rfl | (apply kOIdx; (first | exact aIdx)) | exact aRest | exact aNew | exact (ov_field1 (ft := 31) rfl rfl rfl rfl))) | (refine kN ?_; (first | (refine kStore ?_; (first | refine s_store1 _ rfl rfl gpA rfl (by rfl) ?_ | refine s_storeS _ rfl rfl gpA rfl rfl (by rfl) ?_ | refine s_storeS _ rfl rfl gpA rfl (ones_img oiA) (by rfl) ?_)) | refine s_boxS rfl rfl (fun b hb => ?_) | refine s_allocS rfl (fun b hb => ?_) | refine s_box1 rfl rfl rfl (fun b hb => ?_) | refine s_alloc1 rfl rfl (fun b hb => ?_) | refine s_buildSlice0 rfl (fun b hb => ?_) | refine s_buildSlice rfl rfl rfl rfl rfl (fun b hb => ?_) | apply s_step)) | (refine kG ?_; (first | refine s_gyes rfl rfl rfl ?_ | refine s_gno rfl rfl rfl rfl rfl ?_ | ((first | refine s_split_d rfl rfl (fun h => ?_) (fun h => ?_) | refine s_split_n rfl rfl (fun h => ?_) (fun h => ?_)) <;> (try (first | contradiction | (exfalso; omega)))) | refine s_split_nb rfl rfl (fun h => ?_) (fun h => ?_) | refine s_split rfl rfl (fun h => ?_) (fun h => ?_))) | refine l_then ?_ | (refine kC ?_; (first | (refine c_loopV (ι := Nat) (fun k => k ≤ (o % 4).toNat) (fun k => [(3, .int .i64 (oX wd ht (wd - 1 - x) y k)), (4, .int .i64 (oY wd ht (wd - 1 - x) y k)), (0, .int .i64 (oW wd ht k)), (1, .int .i64 (oW ht wd k)), (47, .int .i64 (k : Int))]) (fun _ => []) (fun k => (o % 4).toNat - k) 0 (by omega) rfl (fun _ => rfl) ⟨rfl, rfl, rfl, rfl, rfl, trivial⟩ (fun w hw => hw) (fun k hk => ?_)) | (refine c_loopV (ι := Nat) (fun k => k ≤ (o % 4).toNat) (fun k => [(3, .int .i64 (oX wd ht x y k)), (4, .int .i64 (oY wd ht x y k)), (0, .int .i64 (oW wd ht k)), (1, .int .i64 (oW ht wd k)), (47, .int .i64 (k : Int))]) (fun _ => []) (fun k => (o % 4).toNat - k) 0 (by omega) rfl (fun _ => rfl) ⟨rfl, rfl, rfl, rfl, rfl, trivial⟩ (fun w hw => hw) (fun k hk => ?_)) | refine c_seq ?_ | refine c_regionN rfl ?_ | refine c_ret ?_ | (refine kCond ?_; (first | refine c_cond_t rfl ?_ | refine c_cond_f rfl ?_ | ((first | refine c_cond_d rfl (fun h => ?_) (fun h => ?_) | refine c_cond_n rfl (fun h => ?_) (fun h => ?_)) <;> (try (first | contradiction | (exfalso; omega)))) | refine c_cond_nb rfl (fun h => ?_) (fun h => ?_) | refine c_cond rfl (fun h => ?_) (fun h => ?_))) | refine c_block ?_ | refine c_skip ?_ | refine c_exit ?_ | refine c_regionQN rfl rfl (by decide +kernel) ?_)) | apply s_stepQ | (refine kQG ?_; (first | refine s_gyesQ rfl rfl rfl ?_ | refine s_gnoQ rfl rfl rfl rfl rfl ?_ | ((first | refine s_splitQ_d rfl rfl (fun h => ?_) (fun h => ?_) | refine s_splitQ_n rfl rfl (fun h => ?_) (fun h => ?_)) <;> (try (first | contradiction | (exfalso; omega)))) | refine s_splitQ_nb rfl rfl (fun h => ?_) (fun h => ?_) | refine s_splitQ rfl rfl (fun h => ?_) (fun h => ?_))) | refine lQ_then ?_ | refine lQ_ends ?_ | (refine kE ?_; (first | refine e_then_r ?_ | refine e_block_r ?_ | refine e_then_n ?_ | refine e_then_x ?_ | refine e_block_n ?_ | refine e_block_x ?_ | refine e_block_y rfl ?_)) | refine l_ends ?_)
    all_goals first | exact e_round (k + 1) (by omega) ⟨slook_to rfl (vint_to (o_next _ _ _ _ k (by omega)).1.symm), slook_to rfl (vint_to (o_next _ _ _ _ k (by omega)).2.1.symm), slook_to rfl (vint_to (o_next wd ht (wd - 1 - x) y k (by omega)).2.2.1.symm), slook_to rfl (vint_to (o_next wd ht (wd - 1 - x) y k (by omega)).2.2.2.symm), rfl, (by repeat' first | exact trivial | refine ⟨rfl, ?_⟩)⟩ (fun w hw => hw) (by omega) | skip
    all_goals (have hk' : k = (o % 4).toNat := by omega)
    all_goals refine s_leave2 rfl rfl rfl (fun w hw => ⟨ret_pair ?_ ?_, hw.below⟩)
    all_goals (rw [hk', orientPoint, if_pos hok, orientPt_turns ho0]; first | rw [if_pos (by omega)] | rw [if_neg (by omega)])
  · have hok2 := hok
    unfold orientOk at hok2
    (first | apply SYields.mk | apply SYieldsF.mk | skip); refine s_enter Tryz.func232 rfl Tryz.ntmps232 rfl ?_
    repeat' (first | exact rfl | (apply kO; (first | exact ov_pure rfl | (apply kOBin; (first | exact aBin | exact (ov_sub rfl rfl (by omega)))) | (apply kOCall; (first | (apply kCallF; (first | exact (ov_call rfl (fun w hw => c_isSide _ w)) | exact (ov_call rfl (fun w hw => c_isOrient _ w)) | exact (ov_call rfl (fun w hw => c_within _ _ _ w)))) | (apply kCallB; (first | exact aBlt | exact aLenR)))) | (apply kOLoad; (first | exact aLdF | exact aLdR)) | exact ov_fieldAddr rfl | (apply kOIdx; (first | exact aIdx)) | exact aRest | exact aNew | exact (ov_field1 (ft := 31) rfl rfl rfl rfl))) | (refine kN ?_; (first | (refine kStore ?_; (first | refine s_store1 _ rfl rfl gpA rfl (by rfl) ?_ | refine s_storeS _ rfl rfl gpA rfl rfl (by rfl) ?_ | refine s_storeS _ rfl rfl gpA rfl (ones_img oiA) (by rfl) ?_)) | refine s_boxS rfl rfl (fun b hb => ?_) | refine s_allocS rfl (fun b hb => ?_) | refine s_box1 rfl rfl rfl (fun b hb => ?_) | refine s_alloc1 rfl rfl (fun b hb => ?_) | refine s_buildSlice0 rfl (fun b hb => ?_) | refine s_buildSlice rfl rfl rfl rfl rfl (fun b hb => ?_) | apply s_step)) | (refine kG ?_; (first | refine s_gyes rfl rfl rfl ?_ | refine s_gno rfl rfl rfl rfl rfl ?_ | ((first | refine s_split_d rfl rfl (fun h => ?_) (fun h => ?_) | refine s_split_n rfl rfl (fun h => ?_) (fun h => ?_)) <;> (try (first | contradiction | (exfalso; omega)))) | refine s_split_nb rfl rfl (fun h => ?_) (fun h => ?_) | refine s_split rfl rfl (fun h => ?_) (fun h => ?_))) | refine l_then ?_ | (refine kC ?_; (first | refine c_seq ?_ | refine c_regionN rfl ?_ | refine c_ret ?_ | (refine kCond ?_; (first | refine c_cond_t rfl ?_ | refine c_cond_f rfl ?_ | ((first | refine c_cond_d rfl (fun h => ?_) (fun h => ?_) | refine c_cond_n rfl (fun h => ?_) (fun h => ?_)) <;> (try (first | contradiction | (exfalso; omega)))) | refine c_cond_nb rfl (fun h => ?_) (fun h => ?_) | refine c_cond rfl (fun h => ?_) (fun h => ?_))) | refine c_block ?_ | refine c_skip ?_ | refine c_exit ?_ | refine c_regionQN rfl rfl (by decide +kernel) ?_)) | apply s_stepQ | (refine kQG ?_; (first | refine s_gyesQ rfl rfl rfl ?_ | refine s_gnoQ rfl rfl rfl rfl rfl ?_ | ((first | refine s_splitQ_d rfl rfl (fun h => ?_) (fun h => ?_) | refine s_splitQ_n rfl rfl (fun h => ?_) (fun h => ?_)) <;> (try (first | contradiction | (exfalso; omega)))) | refine s_splitQ_nb rfl rfl (fun h => ?_) (fun h => ?_) | refine s_splitQ rfl rfl (fun h => ?_) (fun h => ?_))) | refine lQ_then ?_ | refine lQ_ends ?_ | (refine kE ?_; (first | refine e_then_r ?_ | refine e_block_r ?_ | refine e_then_n ?_ | refine e_then_x ?_ | refine e_block_n ?_ | refine e_block_x ?_ | refine e_block_y rfl ?_)) | refine l_ends ?_)
    all_goals refine s_leave2 rfl rfl rfl (fun w hw => ⟨?_, hw.below⟩)
    all_goals (unfold orientPoint; rw [if_neg hok])
theorem c_sorientPoint (wd ht o x y : Int) (W : World) : SYields Tryz.prog 214 #[.int .i64 wd, .int .i64 ht, .int .i64 o, .int .i64 x, .int .i64 y] (.tuple #[.int .i64 (orientPoint wd ht o x y).1, .int .i64 (orientPoint wd ht o x y).2]) W := by
  by_cases hok : orientOk wd ht o ∧ (0 ≤ x ∧ x ≤ wd - 1) ∧ (0 ≤ y ∧ y ≤ ht - 1)
  · have hok' := hok
    unfold orientOk at hok'
    obtain ⟨⟨hw0, hh0, ho0⟩, hx0, hy0⟩ := hok'
    have b1 := fun k => o_bd hw0 hh0 hx0 hy0 k
    have b2 := fun k => o_bd (x := wd - 1 - x) hw0 hh0 (by omega) hy0 k
    have hm : (o % 4).toNat ≤ 3 := by omega
    (first | apply SYields.mk | apply SYieldsF.mk | skip); refine s_enter Tryz.func214 rfl Tryz.ntmps214 rfl ?_
    repeat' (first | exact rfl | (apply kO; (first | exact ov_pure rfl | (apply kOBin; (first | exact aBin | exact (ov_sub rfl rfl (by first | omega | (have := b1 k; have := b2 k; omega))))) | (apply kOCall; (first | (apply kCallF; (first | exact (ov_call rfl (fun w hw => c_l01In _ _ _ w)))) | (apply kCallB; (first | exact aBlt | exact aLenR)))) | (apply kOLoad; (first | exact aLdF | exact aLdR)) | exact ov_fieldAddr rfl | (apply kOIdx; (first | exact aIdx)) | exact aRest | exact aNew | exact (ov_field1 (ft := 31) rfl rfl rfl rfl))) | (refine kN ?_; (first | (refine kStore ?_; (first | refine s_store1 _ rfl rfl gpA rfl (by rfl) ?_ | refine s_storeS _ rfl rfl gpA rfl rfl (by rfl) ?_ | refine s_storeS _ rfl rfl gpA rfl (ones_img oiA) (by rfl) ?_)) | refine s_boxS rfl rfl (fun b hb => ?_) | refine s_allocS rfl (fun b hb => ?_) | refine s_box1 rfl rfl rfl (fun b hb => ?_) | refine s_alloc1 rfl rfl (fun b hb => ?_) | refine s_buildSlice0 rfl (fun b hb => ?_) | refine s_buildSlice rfl rfl rfl rfl rfl (fun b hb => ?_) | apply s_step)) | (refine kG ?_; (first | refine s_gyes rfl rfl rfl ?_ | refine s_gno rfl rfl rfl rfl rfl ?_ | ((first | refine s_split_d rfl rfl (fun h => ?_) (fun h => ?_) | refine s_split_n rfl rfl (fun h => ?_) (fun h => ?_)) <;> (try (first | contradiction | (exfalso; omega)))) | refine s_split_nb rfl rfl (fun h => ?_) (fun h => ?_) | refine s_split rfl rfl (fun h => ?_) (fun h => ?_))) | refine l_then ?_ | (refine kC ?_; (first | (refine c_loopV (ι := Nat) (fun k => k ≤ (o % 4).toNat) (fun k => [(3, .int .i64 (oX wd ht (wd - 1 - x) y k)), (4, .int .i64 (oY wd ht (wd - 1 - x) y k)), (0, .int .i64 (oW wd ht k)), (1, .int .i64 (oW ht wd k)), (12, .int .i64 (k : Int))]) (fun _ => []) (fun k => (o % 4).toNat - k) 0 (by omega) rfl (fun _ => rfl) ⟨rfl, rfl, rfl, rfl, rfl, trivial⟩ (fun w hw => hw) (fun k hk => ?_)) | (refine c_loopV (ι := Nat) (fun k => k ≤ (o % 4).toNat) (fun k => [(3, .int .i64 (oX wd ht x y k)), (4, .int .i64 (oY wd ht x y k)), (0, .int .i64 (oW wd ht k)), (1, .int .i64 (oW ht wd k)), (12, .int .i64 (k : Int))]) (fun _ => []) (fun k => (o % 4).toNat - k) 0 (by omega) rfl (fun _ => rfl) ⟨rfl, rfl, rfl, rfl, rfl, trivial⟩ (fun w hw => hw) (fun k hk => ?_)) | refine c_seq ?_ | refine c_regionN rfl ?_ | refine c_ret ?_ | (refine kCond ?_; (first | refine c_cond_t rfl ?_ | refine c_cond_f rfl ?_ | ((first | refine c_cond_d rfl (fun h => ?_) (fun h => ?_) | refine c_cond_n rfl (fun h => ?_) (fun h => ?_)) <;> (try (first | contradiction | (exfalso; omega)))) | refine c_cond_nb rfl (fun h => ?_) (fun h => ?_) | refine c_cond rfl (fun h => ?_) (fun h => ?_))) | refine c_block ?_ | refine c_skip ?_ | refine c_exit ?_ | refine c_regionQN rfl rfl (by decide +kernel) ?_)) | apply s_stepQ | (refine kQG ?_; (first | refine s_gyesQ rfl rfl rfl ?_ | refine s_gnoQ rfl rfl rfl rfl rfl ?_ | ((first | refine s_splitQ_d rfl rfl (fun h => ?_) (fun h => ?_) | refine s_splitQ_n rfl rfl (fun h => ?_) (fun h => ?_)) <;> (try (first | contradiction | (exfalso; omega)))) | refine s_splitQ_nb rfl rfl (fun h => ?_) (fun h => ?_) | refine s_splitQ rfl rfl (fun h => ?_) (fun h => ?_))) | refine lQ_then ?_ | refine lQ_ends ?_ | (refine kE ?_; (first | refine e_then_r ?_ | refine e_block_r ?_ | refine e_then_n ?_ | refine e_then_x ?_ | refine e_block_n ?_ | refine e_block_x ?_ | refine e_block_y rfl ?_)) | refine l_ends ?_)
    all_goals first | exact e_round (k + 1) (by omega) ⟨slook_to rfl (vint_to (o_next _ _ _ _ k (by omega)).1.symm), slook_to rfl (vint_to (o_next _ _ _ _ k (by omega)).2.1.symm), slook_to rfl (vint_to (o_next wd ht (wd - 1 - x) y k (by omega)).2.2.1.symm), slook_to rfl (vint_to (o_next wd ht (wd - 1 - x) y k (by omega)).2.2.2.symm), rfl, (by repeat' first | exact trivial | refine ⟨rfl, ?_⟩)⟩ (fun w hw => hw) (by omega) | skip
    all_goals (have hk' : k = (o % 4).toNat := by omega)
    all_goals refine s_leave2 rfl rfl rfl (fun w hw => ⟨ret_pair ?_ ?_, hw.below⟩)
    all_goals (rw [hk', orientPoint, if_pos hok, orientPt_turns ho0]; first | rw [if_pos (by omega)] | rw [if_neg (by omega)])
  · have hok2 := hok
    unfold orientOk at hok2
    (first | apply SYields.mk | apply SYieldsF.mk | skip); refine s_enter Tryz.func214 rfl Tryz.ntmps214 rfl ?_
    repeat' (first | exact rfl | (apply kO; (first | exact ov_pure rfl | (apply kOBin; (first | exact aBin | exact (ov_sub rfl rfl (by omega)))) | (apply kOCall; (first | (apply kCallF; (first | exact (ov_call rfl (fun w hw => c_l01In _ _ _ w)))) | (apply kCallB; (first | exact aBlt | exact aLenR)))) | (apply kOLoad; (first | exact aLdF | exact aLdR)) | exact ov_fieldAddr rfl | (apply kOIdx; (first | exact aIdx)) | exact aRest | exact aNew | exact (ov_field1 (ft := 31) rfl rfl rfl rfl))) | (refine kN ?_; (first | (refine kStore ?_; (first | refine s_store1 _ rfl rfl gpA rfl (by rfl) ?_ | refine s_storeS _ rfl rfl gpA rfl rfl (by rfl) ?_ | refine s_storeS _ rfl rfl gpA rfl (ones_img oiA) (by rfl) ?_)) | refine s_boxS rfl rfl (fun b hb => ?_) | refine s_allocS rfl (fun b hb => ?_) | refine s_box1 rfl rfl rfl (fun b hb => ?_) | refine s_alloc1 rfl rfl (fun b hb => ?_) | refine s_buildSlice0 rfl (fun b hb => ?_) | refine s_buildSlice rfl rfl rfl rfl rfl (fun b hb => ?_) | apply s_step)) | (refine kG ?_; (first | refine s_gyes rfl rfl rfl ?_ | refine s_gno rfl rfl rfl rfl rfl ?_ | ((first | refine s_split_d rfl rfl (fun h => ?_) (fun h => ?_) | refine s_split_n rfl rfl (fun h => ?_) (fun h => ?_)) <;> (try (first | contradiction | (exfalso; omega)))) | refine s_split_nb rfl rfl (fun h => ?_) (fun h => ?_) | refine s_split rfl rfl (fun h => ?_) (fun h => ?_))) | refine l_then ?_ | (refine kC ?_; (first | refine c_seq ?_ | refine c_regionN rfl ?_ | refine c_ret ?_ | (refine kCond ?_; (first | refine c_cond_t rfl ?_ | refine c_cond_f rfl ?_ | ((first | refine c_cond_d rfl (fun h => ?_) (fun h => ?_) | refine c_cond_n rfl (fun h => ?_) (fun h => ?_)) <;> (try (first | contradiction | (exfalso; omega)))) | refine c_cond_nb rfl (fun h => ?_) (fun h => ?_) | refine c_cond rfl (fun h => ?_) (fun h => ?_))) | refine c_block ?_ | refine c_skip ?_ | refine c_exit ?_ | refine c_regionQN rfl rfl (by decide +kernel) ?_)) | apply s_stepQ | (refine kQG ?_; (first | refine s_gyesQ rfl rfl rfl ?_ | refine s_gnoQ rfl rfl rfl rfl rfl ?_ | ((first | refine s_splitQ_d rfl rfl (fun h => ?_) (fun h => ?_) | refine s_splitQ_n rfl rfl (fun h => ?_) (fun h => ?_)) <;> (try (first | contradiction | (exfalso; omega)))) | refine s_splitQ_nb rfl rfl (fun h => ?_) (fun h => ?_) | refine s_splitQ rfl rfl (fun h => ?_) (fun h => ?_))) | refine lQ_then ?_ | refine lQ_ends ?_ | (refine kE ?_; (first | refine e_then_r ?_ | refine e_block_r ?_ | refine e_then_n ?_ | refine e_then_x ?_ | refine e_block_n ?_ | refine e_block_x ?_ | refine e_block_y rfl ?_)) | refine l_ends ?_)
    all_goals refine s_leave2 rfl rfl rfl (fun w hw => ⟨?_, hw.below⟩)
    all_goals (unfold orientPoint; rw [if_neg hok])
end Go.Proofs.YtfmjeakcfmmkfaaGreat
/-
  Contracts: a pixel over another one; new images.
-/
set_option linter.unusedVariables false
namespace Go.Proofs.YtfmjeakcfmmkfaaGreat
open Go Sx
attribute [local irreducible] Exit.then Exit.inBlock bodyPost
/-- the first channels of a pixel over another one -/
def ovk (t c : Int) : Nat → Int
  | 0 => 255
  | k + 1 => ovk t c k * 256 + (prt (chan t ((k : Int) + 1)) (chan t 0) + prt (chan c ((k : Int) + 1)) (255 - chan t 0))
theorem ovk_succ (t c : Int) (k : Nat) : ovk t c (k + 1) = ovk t c k * 256 + (prt (chan t ((k : Int) + 1)) (chan t 0) + prt (chan c ((k : Int) + 1)) (255 - chan t 0)) := rfl
theorem ovk_three {t c : Int} (ht : pixP t) (hc : pixP c) : ovk t c 3 = over t c := by unfold over; rw [if_pos ⟨ht, hc⟩]; rfl
theorem ovp_bd (t c k : Int) : (0 ≤ prt (chan t k) (chan t 0) ∧ prt (chan t k) (chan t 0) ≤ chan t 0) ∧ (0 ≤ prt (chan c k) (255 - chan t 0) ∧ prt (chan c k) (255 - chan t 0) ≤ 255 - chan t 0) ∧ (0 ≤ chan t 0 ∧ chan t 0 ≤ 255) := by
  have h0 := chan_bd t 0
  have h255 : byteP (255 - chan t 0) := by unfold byteP; omega
  have h1 := prt_bd (chan_bd t k) (chan_bd t 0)
  have h2 := prt_bd (chan_bd c k) h255
  exact ⟨h1.2, h2.2, h0⟩
theorem ovk_bd (t c : Int) {k : Nat} (hk : k ≤ 2) : 0 ≤ ovk t c k ∧ ovk t c k ≤ 16777215 := by
  have a := ovp_bd t c 1
  have d := ovp_bd t c 2
  have e1 : ovk t c 1 = 255 * 256 + (prt (chan t 1) (chan t 0) + prt (chan c 1) (255 - chan t 0)) := rfl
  have e2 : ovk t c 2 = ovk t c 1 * 256 + (prt (chan t 2) (chan t 0) + prt (chan c 2) (255 - chan t 0)) := rfl
  match k, hk with
  | 0, _ => exact ⟨show (0 : Int) ≤ 255 by decide, show (255 : Int) ≤ 16777215 by decide⟩
  | 1, _ => rw [e1]; omega
  | 2, _ => rw [e2, e1]; omega
theorem c_iover (t c : Int) (w : World) (ht : pixP t) (hc : pixP c) : SYields Tryz.prog 185 #[.int .i64 t, .int .i64 c] (.int .i64 (over t c)) w := by
  have hb := fun (k : Nat) (hk : k ≤ 2) => ovk_bd t c hk
  have hp := ovp_bd t c
  have ht' := ht
  have hc' := hc
  unfold pixP at ht' hc'
  (first | apply SYields.mk | apply SYieldsF.mk | skip); refine s_enter Tryz.func185 rfl Tryz.ntmps185 rfl ?_
  repeat' (first | exact rfl | (apply kO; (first | exact ov_pure rfl | (apply kOBin; (first | exact aBin | exact (ov_sub rfl rfl (by have := hp 0; omega)) | exact (ov_shlN 8 256 (by decide) (by decide) rfl rfl (by have := hb j (by omega); omega)) | exact (ov_orS 8 (by decide) rfl rfl (by have := hb j (by omega); omega) (by have := hp ((j : Int) + 1); omega)) | exact (ov_add rfl rfl (by have := hb j (by omega); have := hp ((j : Int) + 1); omega)))) | (apply kOCall; (first | (apply kCallF; (first | exact (ov_call rfl (fun w hw => c_isPixel _ w)) | exact (ov_call rfl (fun w hw => c_channel _ _ w (by omega))) | exact (ov_call rfl (fun w hw => c_ipart _ _ w)))) | (apply kCallB; (first | exact aBlt | exact aLenR)))) | (apply kOLoad; (first | exact aLdF | exact aLdR)) | exact ov_fieldAddr rfl | (apply kOIdx; (first | exact aIdx)) | exact aRest | exact aNew | exact (ov_field1 (ft := 31) rfl rfl rfl rfl))) | (refine kN ?_; (first | (refine kStore ?_; (first | refine s_store1 _ rfl rfl gpA rfl (by rfl) ?_ | refine s_storeS _ rfl rfl gpA rfl rfl (by rfl) ?_ | refine s_storeS _ rfl rfl gpA rfl (ones_img oiA) (by rfl) ?_)) | refine s_boxS rfl rfl (fun b hb => ?_) | refine s_allocS rfl (fun b hb => ?_) | refine s_box1 rfl rfl rfl (fun b hb => ?_) | refine s_alloc1 rfl rfl (fun b hb => ?_) | refine s_buildSlice0 rfl (fun b hb => ?_) | refine s_buildSlice rfl rfl rfl rfl rfl (fun b hb => ?_) | apply s_step)) | (refine kG ?_; (first | refine s_gyes rfl rfl rfl ?_ | refine s_gno rfl rfl rfl rfl rfl ?_ | ((first | refine s_split_d rfl rfl (fun h => ?_) (fun h => ?_) | refine s_split_n rfl rfl (fun h => ?_) (fun h => ?_)) <;> (try (first | contradiction | (exfalso; omega)))) | refine s_split_nb rfl rfl (fun h => ?_) (fun h => ?_) | refine s_split rfl rfl (fun h => ?_) (fun h => ?_))) | refine l_then ?_ | (refine kC ?_; (first | (refine c_loopV (ι := Nat) (fun j => j ≤ 3) (fun j => [(6, .int .i64 (ovk t c j)), (7, .int .i64 ((j : Int) + 1))]) (fun _ => []) (fun j => 3 - j) 0 (by omega) rfl (fun _ => rfl) ⟨rfl, rfl, trivial⟩ (fun w hw => hw) (fun j hj => ?_)) | refine c_seq ?_ | refine c_regionN rfl ?_ | refine c_ret ?_ | (refine kCond ?_; (first | refine c_cond_t rfl ?_ | refine c_cond_f rfl ?_ | ((first | refine c_cond_d rfl (fun h => ?_) (fun h => ?_) | refine c_cond_n rfl (fun h => ?_) (fun h => ?_)) <;> (try (first | contradiction | (exfalso; omega)))) | refine c_cond_nb rfl (fun h => ?_) (fun h => ?_) | refine c_cond rfl (fun h => ?_) (fun h => ?_))) | refine c_block ?_ | refine c_skip ?_ | refine c_exit ?_ | refine c_regionQN rfl rfl (by decide +kernel) ?_)) | apply s_stepQ | (refine kQG ?_; (first | refine s_gyesQ rfl rfl rfl ?_ | refine s_gnoQ rfl rfl rfl rfl rfl ?_ | ((first | refine s_splitQ_d rfl rfl (fun h => ?_) (fun h => ?_) | refine s_splitQ_n rfl rfl (fun h => ?_) (fun h => ?_)) <;> (try (first | contradiction | (exfalso; omega)))) | refine s_splitQ_nb rfl rfl (fun h => ?_) (fun h => ?_) | refine s_splitQ rfl rfl (fun h => ?_) (fun h => ?_))) | refine lQ_then ?_ | refine lQ_ends ?_ | (refine kE ?_; (first | refine e_then_r ?_ | refine e_block_r ?_ | refine e_then_n ?_ | refine e_then_x ?_ | refine e_block_n ?_ | refine e_block_x ?_ | refine e_block_y rfl ?_)) | refine l_ends ?_)
  · exact e_round (j + 1) (by omega) ⟨slook_to rfl (vint_to (by rw [ovk_succ]; omega)), slook_to rfl (vint_to (by push_cast; rfl)), (by repeat' first | exact trivial | refine ⟨rfl, ?_⟩)⟩ (fun w hw => hw) (by omega)
  · obtain rfl : j = 3 := by omega
    exact s_leave1 rfl rfl (fun w hw => ⟨ret_int (ovk_three ht hc), hw.below⟩)
theorem c_sover (t c : Int) (w : World) (ht : pixP t) (hc : pixP c) : SYields Tryz.prog 101 #[.int .i64 t, .int .i64 c] (.int .i64 (over t c)) w := by
  have hb := fun (k : Nat) (hk : k ≤ 2) => ovk_bd t c hk
  have hp := ovp_bd t c
  have ht' := ht
  have hc' := hc
  unfold pixP at ht' hc'
  (first | apply SYields.mk | apply SYieldsF.mk | skip); refine s_enter Tryz.func101 rfl Tryz.ntmps101 rfl ?_
  repeat' (first | exact rfl | (apply kO; (first | exact ov_pure rfl | (apply kOBin; (first | exact aBin | exact (ov_sub rfl rfl (by have := hp 0; omega)) | exact (ov_shlN 8 256 (by decide) (by decide) rfl rfl (by have := hb j (by omega); omega)) | exact (ov_orS 8 (by decide) rfl rfl (by have := hb j (by omega); omega) (by have := hp ((j : Int) + 1); omega)) | exact (ov_add rfl rfl (by have := hb j (by omega); have := hp ((j : Int) + 1); omega)))) | (apply kOCall; (first | (apply kCallF; (first | exact (ov_call rfl (fun w hw => c_l04Pixel _ w)) | exact (ov_call rfl (fun w hw => c_schannelIn _ _ w (by omega) (by omega))) | exact (ov_call rfl (fun w hw => c_spart _ _ w)))) | (apply kCallB; (first | exact aBlt | exact aLenR)))) | (apply kOLoad; (first | exact aLdF | exact aLdR)) | exact ov_fieldAddr rfl | (apply kOIdx; (first | exact aIdx)) | exact aRest | exact aNew | exact (ov_field1 (ft := 31) rfl rfl rfl rfl))) | (refine kN ?_; (first | (refine kStore ?_; (first | refine s_store1 _ rfl rfl gpA rfl (by rfl) ?_ | refine s_storeS _ rfl rfl gpA rfl rfl (by rfl) ?_ | refine s_storeS _ rfl rfl gpA rfl (ones_img oiA) (by rfl) ?_)) | refine s_boxS rfl rfl (fun b hb => ?_) | refine s_allocS rfl (fun b hb => ?_) | refine s_box1 rfl rfl rfl (fun b hb => ?_) | refine s_alloc1 rfl rfl (fun b hb => ?_) | refine s_buildSlice0 rfl (fun b hb => ?_) | refine s_buildSlice rfl rfl rfl rfl rfl (fun b hb => ?_) | apply s_step)) | (refine kG ?_; (first | refine s_gyes rfl rfl rfl ?_ | refine s_gno rfl rfl rfl rfl rfl ?_ | ((first | refine s_split_d rfl rfl (fun h => ?_) (fun h => ?_) | refine s_split_n rfl rfl (fun h => ?_) (fun h => ?_)) <;> (try (first | contradiction | (exfalso; omega)))) | refine s_split_nb rfl rfl (fun h => ?_) (fun h => ?_) | refine s_split rfl rfl (fun h => ?_) (fun h => ?_))) | refine l_then ?_ | (refine kC ?_; (first | (refine c_loopV (ι := Nat) (fun j => j ≤ 3) (fun j => [(6, .int .i64 (ovk t c j)), (7, .int .i64 ((j : Int) + 1))]) (fun _ => []) (fun j => 3 - j) 0 (by omega) rfl (fun _ => rfl) ⟨rfl, rfl, trivial⟩ (fun w hw => hw) (fun j hj => ?_)) | refine c_seq ?_ | refine c_regionN rfl ?_ | refine c_ret ?_ | (refine kCond ?_; (first | refine c_cond_t rfl ?_ | refine c_cond_f rfl ?_ | ((first | refine c_cond_d rfl (fun h => ?_) (fun h => ?_) | refine c_cond_n rfl (fun h => ?_) (fun h => ?_)) <;> (try (first | contradiction | (exfalso; omega)))) | refine c_cond_nb rfl (fun h => ?_) (fun h => ?_) | refine c_cond rfl (fun h => ?_) (fun h => ?_))) | refine c_block ?_ | refine c_skip ?_ | refine c_exit ?_ | refine c_regionQN rfl rfl (by decide +kernel) ?_)) | apply s_stepQ | (refine kQG ?_; (first | refine s_gyesQ rfl rfl rfl ?_ | refine s_gnoQ rfl rfl rfl rfl rfl ?_ | ((first | refine s_splitQ_d rfl rfl (fun h => ?_) (fun h => ?_) | refine s_splitQ_n rfl rfl (fun h => ?_) (fun h => ?_)) <;> (try (first | contradiction | (exfalso; omega)))) | refine s_splitQ_nb rfl rfl (fun h => ?_) (fun h => ?_) | refine s_splitQ rfl rfl (fun h => ?_) (fun h => ?_))) | refine lQ_then ?_ | refine lQ_ends ?_ | (refine kE ?_; (first | refine e_then_r ?_ | refine e_block_r ?_ | refine e_then_n ?_ | refine e_then_x ?_ | refine e_block_n ?_ | refine e_block_x ?_ | refine e_block_y rfl ?_)) | refine l_ends ?_)
  · exact e_round (j + 1) (by omega) ⟨slook_to rfl (vint_to (by rw [ovk_succ]; omega)), slook_to rfl (vint_to (by push_cast; rfl)), (by repeat' first | exact trivial | refine ⟨rfl, ?_⟩)⟩ (fun w hw => hw) (by omega)
  · obtain rfl : j = 3 := by omega
    exact s_leave1 rfl rfl (fun w hw => ⟨ret_int (ovk_three ht hc), hw.below⟩)
theorem c_inewImage (p q r : Int) (W : World) (hp : 1 ≤ p ∧ p ≤ 16) (hq : 1 ≤ q ∧ q ≤ 16) (hr : pixP r) : SYieldsF Tryz.prog 63 #[.int .i64 p, .int .i64 q, .int .i64 r] (fun u H => OImg u ⟨p, q, List.replicate (p * q).toNat r⟩ H) W := by
  have hwh := side_mul (w := p) (h := q) ⟨hp.1, hp.2, hq.1, hq.2⟩
  have hr' := hr
  unfold pixP at hr'
  (first | apply SYields.mk | apply SYieldsF.mk | skip); refine s_enter Tryz.func63 rfl Tryz.ntmps63 rfl ?_
  repeat' (first | exact rfl | (apply kO; (first | exact ov_pure rfl | (apply kOBin; (first | exact aBin)) | (apply kOCall; (first | (apply kCallF; (first | exact (ov_call rfl (fun w hw => c_isSide _ w)) | exact (ov_call rfl (fun w hw => c_isPixel _ w)))) | (apply kCallB; (first | exact aBlt | exact aLenR)))) | (apply kOLoad; (first | exact aLdF | exact aLdR)) | exact ov_fieldAddr rfl | (apply kOIdx; (first | exact aIdx)) | exact aRest | exact aNew | exact (ov_field1 (ft := 31) rfl rfl rfl rfl))) | (refine kN ?_; (first | (refine kCall ?_; (first | (refine kWFn 143 ?_; (refine s_callF (fun u H => OInts 3 u (List.replicate (p * q).toNat r) H) rfl (fun w hw => c_repeat _ r (p * q) w (OInts.reads (OInts.whole 3 _ [r] (Nat.le_of_ble_eq_true rfl)) (hfA hw)) (by omega)) rfl (fun u H hu => ?_); have f4 := hu.form; obtain ⟨ga, gc, rfl⟩ := f4)) | apply s_step)) | (refine kStore ?_; (first | refine s_store1 _ rfl rfl gpA rfl (by rfl) ?_ | refine s_storeS _ rfl rfl gpA rfl rfl (by rfl) ?_ | refine s_storeS _ rfl rfl gpA rfl (ones_img oiA) (by rfl) ?_)) | refine s_boxS rfl rfl (fun b hb => ?_) | refine s_allocS rfl (fun b hb => ?_) | refine s_box1 rfl rfl rfl (fun b hb => ?_) | refine s_alloc1 rfl rfl (fun b hb => ?_) | refine s_buildSlice0 rfl (fun b hb => ?_) | refine s_buildSlice rfl rfl rfl rfl rfl (fun b hb => ?_) | apply s_step)) | (refine kG ?_; (first | refine s_gyes rfl rfl rfl ?_ | refine s_gno rfl rfl rfl rfl rfl ?_ | ((first | refine s_split_d rfl rfl (fun h => ?_) (fun h => ?_) | refine s_split_n rfl rfl (fun h => ?_) (fun h => ?_)) <;> (try (first | contradiction | (exfalso; omega)))) | refine s_split_nb rfl rfl (fun h => ?_) (fun h => ?_) | refine s_split rfl rfl (fun h => ?_) (fun h => ?_))) | refine l_then ?_ | (refine kC ?_; (first | refine c_seq ?_ | refine c_regionN rfl ?_ | refine c_ret ?_ | (refine kCond ?_; (first | refine c_cond_t rfl ?_ | refine c_cond_f rfl ?_ | ((first | refine c_cond_d rfl (fun h => ?_) (fun h => ?_) | refine c_cond_n rfl (fun h => ?_) (fun h => ?_)) <;> (try (first | contradiction | (exfalso; omega)))) | refine c_cond_nb rfl (fun h => ?_) (fun h => ?_) | refine c_cond rfl (fun h => ?_) (fun h => ?_))) | refine c_block ?_ | refine c_skip ?_ | refine c_exit ?_ | refine c_regionQN rfl rfl (by decide +kernel) ?_)) | apply s_stepQ | (refine kQG ?_; (first | refine s_gyesQ rfl rfl rfl ?_ | refine s_gnoQ rfl rfl rfl rfl rfl ?_ | ((first | refine s_splitQ_d rfl rfl (fun h => ?_) (fun h => ?_) | refine s_splitQ_n rfl rfl (fun h => ?_) (fun h => ?_)) <;> (try (first | contradiction | (exfalso; omega)))) | refine s_splitQ_nb rfl rfl (fun h => ?_) (fun h => ?_) | refine s_splitQ rfl rfl (fun h => ?_) (fun h => ?_))) | refine lQ_then ?_ | refine lQ_ends ?_ | (refine kE ?_; (first | refine e_then_r ?_ | refine e_block_r ?_ | refine e_then_n ?_ | refine e_then_x ?_ | refine e_block_n ?_ | refine e_block_x ?_ | refine e_block_y rfl ?_)) | refine l_ends ?_)
  all_goals (refine s_leaveSF rfl rfl rfl fwA (fun w hw => ⟨_, _, rfl, ⟨_, rfl, hu⟩, hw.toFresh (H := H) gpA⟩))
end Go.Proofs.YtfmjeakcfmmkfaaGreat
/-
  The program's grids: sixteen rows as numbers. Rules for their bits.
-/
set_option linter.unusedVariables false
namespace Go.Proofs.YtfmjeakcfmmkfaaGreat
open Go Sx
attribute [local irreducible] Exit.then Exit.inBlock bodyPost
def rowV (g : Grid) (y : Nat) : Value := .int .i64 (Sx.bits (g y) 16 : Nat)
abbrev gcells (g : Grid) : List Value := [rowV g 0, rowV g 1, rowV g 2, rowV g 3, rowV g 4, rowV g 5, rowV g 6, rowV g 7, rowV g 8, rowV g 9, rowV g 10, rowV g 11, rowV g 12, rowV g 13, rowV g 14, rowV g 15]
abbrev gval (g : Grid) : Value := .agg #[rowV g 0, rowV g 1, rowV g 2, rowV g 3, rowV g 4, rowV g 5, rowV g 6, rowV g 7, rowV g 8, rowV g 9, rowV g 10, rowV g 11, rowV g 12, rowV g 13, rowV g 14, rowV g 15]
def gl (g : Grid) : List Value := (List.range 16).map (rowV g)
theorem gl_eq (g : Grid) : gl g = gcells g := rfl
theorem gl_get (g : Grid) {y : Nat} (h : y < 16) : (gl g)[y]? = some (rowV g y) := by simp [gl, h]
theorem rowV_congr {g h : Grid} (e : g.eqv h) {y : Nat} (hy : y < 16) : rowV g y = rowV h y := by
  unfold rowV; rw [bits_congr 16 (fun i hi => e y i hy hi)]
theorem gl_congr {g h : Grid} (e : g.eqv h) : gl g = gl h := List.map_congr_left (fun y hy => rowV_congr e (List.mem_range.1 hy))
theorem gval_congr {g h : Grid} (e : g.eqv h) : gval g = gval h := by
  have := gl_congr e
  rw [gl_eq, gl_eq] at this
  show Value.agg (gcells g).toArray = Value.agg (gcells h).toArray
  rw [this]
def Grid.row (g : Grid) (y : Nat) (f : Nat → Bool) : Grid := fun b => if b = y then f else g b
theorem gl_set (g : Grid) {y : Nat} (hy : y < 16) (f : Nat → Bool) : (gl g).set y (.int .i64 (Sx.bits f 16 : Nat)) = gl (Grid.row g y f) := by
  apply List.ext_getElem?
  intro q
  rw [List.getElem?_set]
  by_cases hq : q < 16
  · rw [gl_get g hq, gl_get _ hq]
    unfold rowV Grid.row
    by_cases e : y = q
    · subst e; simp [gl, hy]
    · have e' : ¬ q = y := fun hh => e hh.symm
      simp [e, e']
  · have h1 : (gl g).length ≤ q := by simp [gl]; omega
    have h2 : (gl (Grid.row g y f)).length ≤ q := by simp [gl]; omega
    rw [List.getElem?_eq_none h1, List.getElem?_eq_none h2, if_neg (by omega)]
theorem none_zero : gcells Grid.none = List.replicate 16 (Value.int .i64 0) := rfl
theorem bits16 (f : Nat → Bool) : 0 ≤ ((Sx.bits f 16 : Nat) : Int) ∧ ((Sx.bits f 16 : Nat) : Int) ≤ 65535 := by
  have := bits_lt f 16
  omega
section
variable {P : Program} {n : Nat} {lo : SMut} {s : World} {E : SEnv} {L : SHeap} {d : Option Tmp} {ty : TypeId} {pos : String} {after : Array Edge} {g0 : Option (Nat × Bool)} {x y : Operand} {xt yt : TypeId}
/-- an array of zeros -/
theorem ov_buildA0 {t e : TypeId} {len : Nat} {zl : List Value} {ze : Value} {k by_ ke be : Nat} [hu : SUnd P t (.array len e)] [hi : SInf P t (.agg zl.toArray) k by_] [he : SInf P e ze ke be] :
    SOpV P n lo s E L ⟨d, .build t #[], ty, pos, after, g0⟩ (.agg zl.toArray) :=
  SOpV.of_run fun a ha w hw => by
    obtain ⟨i1, h1, h2, h3, h4⟩ := hi.out
    obtain ⟨i2, q1, q2, q3, q4⟩ := he.out
    have hb : P.built t ([] : List (Nat × Value)) = some zl.toArray := by
      unfold Program.built
      simp only [h1, hu.h, h2, q1]
      rfl
    have := run_build w t #[] zl.toArray hb
    simp [execOp, this]
/-- a row of a grid in memory -/
theorem ov_ldG (g : Grid) {t : TypeId} {b i j : Nat} {td : TypeDesc} {T : TypeId} [hu : SUnd P t td] (hx : sval E x = some (.pointer (some ⟨b, 0 + j * 1, none⟩))) (hr : sisRow td = false) (hL : getL L i = some [(b, srow (gl g) T)]) (hj : j < 16) :
    SOpV P n lo s E L ⟨d, .load t x, ty, pos, after, g0⟩ (.int .i64 (Sx.bits (g j) 16 : Nat)) :=
  ov_load hx hr (getL_flat hL (List.mem_singleton.2 rfl)) (by rw [snth_eq, Nat.zero_add, Nat.mul_one]; exact gl_get g hj)
theorem ov_orG {f h : Nat → Bool} (hx : sval E x = some (.int .i64 (Sx.bits f 16 : Nat))) (hy : sval E y = some (.int .i64 (Sx.bits h 16 : Nat))) :
    SOpV P n lo s E L ⟨d, .binOp .or xt x y yt, ty, pos, after, g0⟩ (.int .i64 (Sx.bits (fun i => f i || h i) 16 : Nat)) := by
  have h1 := bits16 f
  have h2 := bits16 h
  have := ov_or (P := P) (n := n) (lo := lo) (s := s) (L := L) (d := d) (ty := ty) (pos := pos) (after := after) (g := g0) (xt := xt) (yt := yt) hx hy (by omega) (by omega)
  rw [Int.toNat_natCast, Int.toNat_natCast, bits_or] at this
  exact this
theorem ov_andG {f h : Nat → Bool} (hx : sval E x = some (.int .i64 (Sx.bits f 16 : Nat))) (hy : sval E y = some (.int .i64 (Sx.bits h 16 : Nat))) :
    SOpV P n lo s E L ⟨d, .binOp .and xt x y yt, ty, pos, after, g0⟩ (.int .i64 (Sx.bits (fun i => f i && h i) 16 : Nat)) := by
  have h1 := bits16 f
  have h2 := bits16 h
  have := ov_and (P := P) (n := n) (lo := lo) (s := s) (L := L) (d := d) (ty := ty) (pos := pos) (after := after) (g := g0) (xt := xt) (yt := yt) hx hy (by omega) (by omega)
  rw [Int.toNat_natCast, Int.toNat_natCast, bits_and] at this
  exact this
/-- one shifted left -/
theorem ov_bit {kj : IntKind} {j : Int} (hx : sval E x = some (.int .i64 1)) (hy : sval E y = some (.int kj j)) (hj : 0 ≤ j ∧ j ≤ 16) :
    SOpV P n lo s E L ⟨d, .binOp .shl xt x y yt, ty, pos, after, g0⟩ (.int .i64 ((2 ^ j.toNat : Nat) : Int)) := by
  have hp : (2 : Nat) ^ j.toNat ≤ 2 ^ 16 := Nat.pow_le_pow_right (by omega) (by omega)
  have e : (1 : Int) * 2 ^ j.toNat = ((2 ^ j.toNat : Nat) : Int) := by push_cast; omega
  have hm : ∀ m : Nat, m ≤ 2 ^ 16 → -9223372036854775808 ≤ (m : Int) ∧ (m : Int) ≤ 9223372036854775807 := fun m h => by omega
  have := ov_shl (P := P) (n := n) (lo := lo) (s := s) (L := L) (d := d) (ty := ty) (pos := pos) (after := after) (g := g0) (xt := xt) (yt := yt) hx hy (by omega) (by rw [e]; exact hm _ hp)
  rw [e] at this
  exact this
/-- is this bit there -/
theorem ov_andBit {f : Nat → Bool} {j : Nat} (hx : sval E x = some (.int .i64 (Sx.bits f 16 : Nat))) (hy : sval E y = some (.int .i64 ((2 ^ j : Nat) : Int))) (hj : j < 16) :
    SOpV P n lo s E L ⟨d, .binOp .and xt x y yt, ty, pos, after, g0⟩ (.int .i64 (if f j = true then ((2 ^ j : Nat) : Int) else 0)) := by
  have h1 := bits16 f
  have hp : (2 : Nat) ^ j ≤ 2 ^ 16 := Nat.pow_le_pow_right (by omega) (by omega)
  have hm : ∀ m : Nat, m ≤ 2 ^ 16 → 0 ≤ (m : Int) ∧ (m : Int) ≤ 9223372036854775807 := fun m h => by omega
  have := ov_and (P := P) (n := n) (lo := lo) (s := s) (L := L) (d := d) (ty := ty) (pos := pos) (after := after) (g := g0) (xt := xt) (yt := yt) hx hy (by omega) (hm _ hp)
  rw [Int.toNat_natCast, Int.toNat_natCast, bits_and_bit f hj] at this
  split at this
  · rename_i h; rw [if_pos h]; exact this
  · rename_i h; rw [if_neg h]; exact this
end
theorem bit_ne {p : Bool} {j : Nat} : (if p = true then ((2 ^ j : Nat) : Int) else 0) ≠ 0 ↔ p = true := by
  have h2 : 0 < 2 ^ j := Nat.pow_pos (by omega)
  cases p
  · simp
  · have hm : ∀ m : Nat, 0 < m → (m : Int) ≠ 0 := fun m h => by omega
    rw [if_pos rfl]
    exact ⟨fun _ => rfl, fun _ => hm _ h2⟩
end Go.Proofs.YtfmjeakcfmmkfaaGreat
/-
  The plain functions, continued: a rectangle filled row by row; one surface painted, as the program and as the reference do it. No program in sight.
-/
set_option linter.unusedVariables false
namespace Sx
/-- a rectangle is filled up to row j, and in that row up to place i -/
def boxTo (r : DRect) (f old : Int → Int → Int) (j i : Nat) (x y : Int) : Int :=
  if (r.X ≤ x ∧ x < r.X + r.W ∧ r.Y ≤ y) ∧ (y < r.Y + j ∨ (y = r.Y + j ∧ x < r.X + i)) then f x y else old x y
theorem boxTo_zero (r : DRect) (f old : Int → Int → Int) : boxTo r f old 0 0 = old := by
  funext x y; unfold boxTo; rw [if_neg (by omega)]
theorem boxTo_here (r : DRect) (f old : Int → Int → Int) (j i : Nat) : boxTo r f old j i (r.X + i) (r.Y + j) = old (r.X + i) (r.Y + j) := by
  unfold boxTo; rw [if_neg (by omega)]
theorem boxTo_next {r : DRect} {f old : Int → Int → Int} {j i : Nat} (hi : (i : Int) < r.W) : boxTo r f old j (i + 1) = fun x y => if x = r.X + i ∧ y = r.Y + j then f (r.X + i) (r.Y + j) else boxTo r f old j i x y := by
  funext x y
  by_cases e : x = r.X + i ∧ y = r.Y + j
  · obtain ⟨rfl, rfl⟩ := e
    rw [if_pos ⟨rfl, rfl⟩]
    unfold boxTo; rw [if_pos (by omega)]
  · rw [if_neg e]
    unfold boxTo
    by_cases e2 : (r.X ≤ x ∧ x < r.X + r.W ∧ r.Y ≤ y) ∧ (y < r.Y + j ∨ (y = r.Y + j ∧ x < r.X + i))
    · rw [if_pos e2, if_pos (by omega)]
    · rw [if_neg e2, if_neg (by omega)]
theorem boxTo_row {r : DRect} {f old : Int → Int → Int} {j i : Nat} (hi : r.W ≤ (i : Int)) : boxTo r f old j i = boxTo r f old (j + 1) 0 := by
  funext x y
  unfold boxTo
  by_cases e2 : (r.X ≤ x ∧ x < r.X + r.W ∧ r.Y ≤ y) ∧ (y < r.Y + j ∨ (y = r.Y + j ∧ x < r.X + i))
  · rw [if_pos e2, if_pos (by omega)]
  · rw [if_neg e2, if_neg (by omega)]
theorem boxTo_all {r : DRect} {f old : Int → Int → Int} {j : Nat} (hj : (j : Int) = r.H) (x y : Int) : boxTo r f old j 0 x y = if r.X ≤ x ∧ x < r.X + r.W ∧ r.Y ≤ y ∧ y < r.Y + r.H then f x y else old x y := by
  unfold boxTo
  by_cases e : r.X ≤ x ∧ x < r.X + r.W ∧ r.Y ≤ y ∧ y < r.Y + r.H
  · rw [if_pos e, if_pos (by omega)]
  · rw [if_neg e, if_neg (by omega)]
/-- nothing to fill -/
theorem boxTo_none {r : DRect} {f old : Int → Int → Int} {j : Nat} (h : r.W ≤ 0) : boxTo r f old j 0 = old := by
  funext x y; unfold boxTo; rw [if_neg (by omega)]
theorem has_iff {r : DRect} (h : r.ok) (x y : Int) : r.has x y ↔ r.X ≤ x ∧ x < r.X + r.W ∧ r.Y ≤ y ∧ y < r.Y + r.H := by
  unfold DRect.has; constructor
  · rintro ⟨_, h2⟩; omega
  · intro h2; exact ⟨h, by omega⟩
/-- a whole surface over an image of w by h pixels, as the reference paints it -/
theorem box_layer {s : DSurf} {w h : Int} (hw : 1 ≤ w ∧ w ≤ 16) (hh : 1 ≤ h ∧ h ≤ 16) (old : Int → Int → Int) {j : Nat} (hj : (j : Int) = ((surfRect s).inter ⟨0, 0, w, h⟩).H) {x y : Int} (hx : 0 ≤ x ∧ x < w) (hy : 0 ≤ y ∧ y < h) :
    boxTo ((surfRect s).inter ⟨0, 0, w, h⟩) (fun a b => over (pixOf s a b) (old a b)) old j 0 x y = layer s x y (old x y) := by
  have hb : (⟨0, 0, w, h⟩ : DRect).ok := by unfold DRect.ok; dsimp only; omega
  have hi := (DRect.inter_ok (surfRect_ok s) hb).1
  have h1 := inter_has (surfRect_ok s) hb x y
  have h2 := has_iff hi x y
  have h3 := has_iff hb x y
  dsimp only at h3
  rw [boxTo_all hj]
  unfold layer
  by_cases e : (surfRect s).has x y
  · rw [if_pos e, if_pos (h2.1 (h1.2 ⟨e, h3.2 (by omega)⟩))]
  · rw [if_neg e, if_neg (fun hh => e (h1.1 (h2.2 hh)).1)]
/-- a whole surface over an image, as the program paints it -/
theorem one_layer {s : DSurf} (hs : s.ok) (hv : s.Visible = true) {g : Grid} (old : Int → Int → Int) {x y : Int} (hg : inG g x y = true) : oneTo s g old ((surfSize s).1 * (surfSize s).2).toNat x y = layer s x y (old x y) := by
  rw [oneTo_all hs]
  unfold layer
  rw [surfRect_vis hs hv, hg]
  by_cases e : (rawRect s).has x y
  · rw [if_pos ⟨e, rfl⟩, if_pos e]
  · rw [if_neg (fun hh => e hh.1), if_neg e]
theorem hid_layer {s : DSurf} (hv : ¬ s.Visible = true) (x y b : Int) : layer s x y b = b := by
  unfold layer; rw [surfRect_hid hv, if_neg (zero_has x y)]
/-- how many points the program paints of the first k pixels -/
def hitN (s : DSurf) (g : Grid) (w h : Int) : Nat → Int
  | 0 => 0
  | k + 1 => hitN s g w h k + (if ((0 ≤ kx s k ∧ kx s k ≤ w - 1) ∧ (0 ≤ ky s k ∧ ky s k ≤ h - 1)) ∧ inG g (kx s k) (ky s k) = true then 1 else 0)
theorem hitN_bd (s : DSurf) (g : Grid) (w h : Int) : ∀ k : Nat, 0 ≤ hitN s g w h k ∧ hitN s g w h k ≤ k
  | 0 => ⟨Int.le_refl _, Int.le_refl _⟩
  | k + 1 => by have := hitN_bd s g w h k; unfold hitN; split <;> omega
theorem one_miss {s : DSurf} (hs : s.ok) {g : Grid} {old : Int → Int → Int} {w h : Int} (hw : 1 ≤ w) {k : Nat} (hk : k < ((surfSize s).1 * (surfSize s).2).toNat)
    (hn : ¬ (((0 ≤ kx s k ∧ kx s k ≤ w - 1) ∧ (0 ≤ ky s k ∧ ky s k ≤ h - 1)) ∧ inG g (kx s k) (ky s k) = true)) :
    mapTo (oneTo s g old (k + 1)) w (w * h).toNat = mapTo (oneTo s g old k) w (w * h).toNat ∧ hitN s g w h (k + 1) = hitN s g w h k := by
  refine ⟨mapTo_congr hw (fun x y h1 h2 h3 h4 => oneTo_miss hs g old hk x y (fun hh => hn ?_)), by unfold hitN; rw [if_neg hn, Int.add_zero]; cases k <;> rfl⟩
  obtain ⟨rfl, rfl, hg⟩ := hh
  exact ⟨⟨⟨h1, by omega⟩, h3, by omega⟩, hg⟩
theorem one_hit {s : DSurf} (hs : s.ok) {g : Grid} {old : Int → Int → Int} {w h : Int} {k : Nat} (hk : k < ((surfSize s).1 * (surfSize s).2).toNat)
    (hx : 0 ≤ kx s k ∧ kx s k ≤ w - 1) (hy : 0 ≤ ky s k ∧ ky s k ≤ h - 1) (hg : inG g (kx s k) (ky s k) = true) :
    (mapTo (oneTo s g old k) w (w * h).toNat).set (ky s k * w + kx s k).toNat (over ((pictureOf s).data.getD k 0) ((mapTo (oneTo s g old k) w (w * h).toNat).getD (ky s k * w + kx s k).toNat 0)) = mapTo (oneTo s g old (k + 1)) w (w * h).toNat
    ∧ hitN s g w h k + 1 = hitN s g w h (k + 1) := by
  constructor
  · rw [mapTo_at (oneTo s g old k) (w := w) (h := h) ⟨hx.1, by omega⟩ ⟨hy.1, by omega⟩, mapTo_set (oneTo s g old k) (w := w) (h := h) ⟨hx.1, by omega⟩ ⟨hy.1, by omega⟩]
    congr 1
    funext a b
    rw [oneTo_hit hs g old hk hg a b]
  · conv => rhs; unfold hitN
    rw [if_pos ⟨⟨hx, hy⟩, hg⟩]
theorem newPaint (s : DScene) : mapTo (paintTo s 0) s.W (s.W * s.H).toNat = List.replicate (s.W * s.H).toNat s.Back := by
  apply List.ext_getElem?
  intro q
  rw [List.getElem?_replicate]
  unfold mapTo
  rw [List.getElem?_map]
  by_cases e : q < (s.W * s.H).toNat
  · rw [List.getElem?_range e, if_pos e]; rfl
  · rw [List.getElem?_eq_none (by rw [List.length_range]; omega), if_neg e]; rfl
theorem screen_in {w h x y : Int} (hw : 1 ≤ w ∧ w ≤ 16) (hh : 1 ≤ h ∧ h ≤ 16) (hx : 0 ≤ x ∧ x < w) (hy : 0 ≤ y ∧ y < h) : inG (rectG ⟨0, 0, w, h⟩) x y = true := by
  unfold inG rectG DRect.holds DRect.has DRect.ok
  exact decide_eq_true (by dsimp only; omega)
theorem painted_step {s : DScene} (h : s.ok) {k : Nat} (hk : k < s.ss.length) (hv : (s.ss.getD k default).Visible = true) :
    mapTo (oneTo (s.ss.getD k default) (rectG ⟨0, 0, s.W, s.H⟩) (paintTo s k) ((surfSize (s.ss.getD k default)).1 * (surfSize (s.ss.getD k default)).2).toNat) s.W (s.W * s.H).toNat = mapTo (paintTo s (k + 1)) s.W (s.W * s.H).toNat :=
  mapTo_congr h.1.1 (fun x y h1 h2 h3 h4 => by rw [one_layer (getD_ok h hk) hv _ (screen_in h.1 h.2.1 ⟨h1, h2⟩ ⟨h3, h4⟩), paintTo_succ hk])
theorem painted_skip {s : DScene} {k : Nat} (hk : k < s.ss.length) (hv : ¬ (s.ss.getD k default).Visible = true) : paintTo s (k + 1) = paintTo s k := by
  funext x y; rw [paintTo_succ hk, hid_layer hv]
/-- a place of the part of a surface that is on the screen -/
theorem box_at {s : DSurf} (hs : s.ok) {w h : Int} (hw : 1 ≤ w ∧ w ≤ 16) (hh : 1 ≤ h ∧ h ≤ 16) {j i : Nat} (hi : (i : Int) < ((surfRect s).inter ⟨0, 0, w, h⟩).W) (hj : (j : Int) < ((surfRect s).inter ⟨0, 0, w, h⟩).H) :
    (0 ≤ ((surfRect s).inter ⟨0, 0, w, h⟩).X + i ∧ ((surfRect s).inter ⟨0, 0, w, h⟩).X + i < w) ∧ (0 ≤ ((surfRect s).inter ⟨0, 0, w, h⟩).Y + j ∧ ((surfRect s).inter ⟨0, 0, w, h⟩).Y + j < h)
    ∧ (0 ≤ ((surfRect s).inter ⟨0, 0, w, h⟩).X + i - (surfRect s).X ∧ ((surfRect s).inter ⟨0, 0, w, h⟩).X + i - (surfRect s).X < (pictureOf s).W) ∧ (0 ≤ ((surfRect s).inter ⟨0, 0, w, h⟩).Y + j - (surfRect s).Y ∧ ((surfRect s).inter ⟨0, 0, w, h⟩).Y + j - (surfRect s).Y < (pictureOf s).H)
    ∧ (surfRect s).X = s.X ∧ (surfRect s).Y = s.Y := by
  have hb : (⟨0, 0, w, h⟩ : DRect).ok := by unfold DRect.ok; dsimp only; omega
  have ho := (DRect.inter_ok (surfRect_ok s) hb).1
  have h0 : ((surfRect s).inter ⟨0, 0, w, h⟩).has (((surfRect s).inter ⟨0, 0, w, h⟩).X + i) (((surfRect s).inter ⟨0, 0, w, h⟩).Y + j) := ⟨ho, by omega⟩
  have h1 := (inter_has (surfRect_ok s) hb _ _).1 h0
  have h2 := h1.2.2
  dsimp only at h2
  by_cases hv : s.Visible = true
  · rw [surfRect_vis hs hv] at h1 ⊢
    have h3 := h1.1.2
    have hz := surfSize_pic hs
    rw [surfRect_vis hs hv] at h2
    unfold rawRect at h3 ⊢
    dsimp only at h3 ⊢
    unfold rawRect at h2
    rw [hz.1, hz.2]
    omega
  · rw [surfRect_hid hv] at h1; exact absurd h1.1 (zero_has _ _)
theorem pixOf_pix (s : DSurf) (x y : Int) : pixP (pixOf s x y) := by
  by_cases h : s.ok
  · exact (pictureOf_ok h).at_pix _ _
  · unfold pixOf pictureOf
    rw [if_neg h]
    unfold DImg.at DImg.zero pixP
    simp
theorem over_pixP {t b : Int} (ht : pixP t) (hb : pixP b) : pixP (over t b) := by
  have := over_bd ht hb; unfold pixP; omega
theorem boxTo_pix {r : DRect} {f old : Int → Int → Int} (hf : ∀ x y, pixP (f x y)) (ho : ∀ x y, pixP (old x y)) (j i : Nat) (x y : Int) : pixP (boxTo r f old j i x y) := by
  unfold boxTo; split
  · exact hf x y
  · exact ho x y
theorem box_bd {s : DSurf} {w h : Int} (hw : 1 ≤ w ∧ w ≤ 16) (hh : 1 ≤ h ∧ h ≤ 16) : ((-1000 ≤ ((surfRect s).inter ⟨0, 0, w, h⟩).X ∧ ((surfRect s).inter ⟨0, 0, w, h⟩).X ≤ 1000) ∧ (-1000 ≤ ((surfRect s).inter ⟨0, 0, w, h⟩).Y ∧ ((surfRect s).inter ⟨0, 0, w, h⟩).Y ≤ 1000)) ∧ (0 ≤ ((surfRect s).inter ⟨0, 0, w, h⟩).W ∧ ((surfRect s).inter ⟨0, 0, w, h⟩).W ≤ 16) ∧ (0 ≤ ((surfRect s).inter ⟨0, 0, w, h⟩).H ∧ ((surfRect s).inter ⟨0, 0, w, h⟩).H ≤ 16) := by
  have hb : (⟨0, 0, w, h⟩ : DRect).ok := by unfold DRect.ok; dsimp only; omega
  have ho := DRect.inter_ok (surfRect_ok s) hb
  have h1 := ho.1
  have h2 := ho.2.1
  have h3 := ho.2.2.1
  unfold DRect.ok at h1
  dsimp only at h2 h3
  omega
theorem box_step {s : DSurf} (hs : s.ok) {w h : Int} (hw : 1 ≤ w ∧ w ≤ 16) (hh : 1 ≤ h ∧ h ≤ 16) (old : Int → Int → Int) {j i : Nat} (hi : (i : Int) < ((surfRect s).inter ⟨0, 0, w, h⟩).W) (hj : (j : Int) < ((surfRect s).inter ⟨0, 0, w, h⟩).H) :
    (mapTo (boxTo ((surfRect s).inter ⟨0, 0, w, h⟩) (fun a c => over (pixOf s a c) (old a c)) old j i) w (w * h).toNat).set ((((surfRect s).inter ⟨0, 0, w, h⟩).Y + j) * w + (((surfRect s).inter ⟨0, 0, w, h⟩).X + i)).toNat (over ((pictureOf s).data.getD ((((surfRect s).inter ⟨0, 0, w, h⟩).Y + j - (surfRect s).Y) * (pictureOf s).W + (((surfRect s).inter ⟨0, 0, w, h⟩).X + i) - (surfRect s).X).toNat 0) ((mapTo (boxTo ((surfRect s).inter ⟨0, 0, w, h⟩) (fun a c => over (pixOf s a c) (old a c)) old j i) w (w * h).toNat).getD ((((surfRect s).inter ⟨0, 0, w, h⟩).Y + j) * w + (((surfRect s).inter ⟨0, 0, w, h⟩).X + i)).toNat 0))
    = mapTo (boxTo ((surfRect s).inter ⟨0, 0, w, h⟩) (fun a c => over (pixOf s a c) (old a c)) old j (i + 1)) w (w * h).toNat := by
  have hb := box_at hs hw hh hi hj
  rw [mapTo_at _ hb.1 hb.2.1, boxTo_here, mapTo_set _ hb.1 hb.2.1, boxTo_next hi]
  have e : (((surfRect s).inter ⟨0, 0, w, h⟩).Y + j - (surfRect s).Y) * (pictureOf s).W + (((surfRect s).inter ⟨0, 0, w, h⟩).X + i) - (surfRect s).X = (((surfRect s).inter ⟨0, 0, w, h⟩).Y + j - s.Y) * (pictureOf s).W + (((surfRect s).inter ⟨0, 0, w, h⟩).X + i - s.X) := by
    rw [hb.2.2.2.2.1, hb.2.2.2.2.2]; omega
  rw [e]
  rfl
theorem box_done {s : DScene} (h : s.ok) {k : Nat} (hk : k < s.ss.length) {j : Nat} (hj : (j : Int) = ((surfRect (s.ss.getD k default)).inter ⟨0, 0, s.W, s.H⟩).H) :
    mapTo (boxTo ((surfRect (s.ss.getD k default)).inter ⟨0, 0, s.W, s.H⟩) (fun a c => over (pixOf (s.ss.getD k default) a c) (paintTo s k a c)) (paintTo s k) j 0) s.W (s.W * s.H).toNat = mapTo (paintTo s (k + 1)) s.W (s.W * s.H).toNat :=
  mapTo_congr h.1.1 (fun x y h1 h2 h3 h4 => by rw [box_layer h.1 h.2.1 (paintTo s k) hj ⟨h1, h2⟩ ⟨h3, h4⟩, paintTo_succ hk])
end Sx
