/-
  Texts that the law stands on, part 3: K11, KE, L0, E8, EH, EI, EK, EV, KZ, CA, M10, M11, M12, M16, M18, H1.
-/
import Derived.Test.YtakijgpoaeggnaaGreatPresentB2
/-
  Contracts: rectangles; the place of a surface; what painting costs.
-/
set_option linter.unusedVariables false
namespace Go.Proofs.YtakijgpoaeggnaaGreat
open Go Sx
attribute [local irreducible] Exit.then Exit.inBlock bodyPost
theorem c_irectOk (r : DRect) (w : World) : SYields Tryz.prog 153 #[vRect r] (.bool (decide r.ok)) w := by
  (first | apply SYields.mk | apply SYieldsF.mk | skip); refine s_enter Tryz.func153 rfl Tryz.ntmps153 rfl ?_
  repeat' (first | exact rfl | (apply kO; (first | exact ov_pure rfl | (apply kOBin; (first | exact aBin)) | (apply kOCall; (first | (apply kCallF; (first | exact (ov_call rfl (fun w hw => c_within _ _ _ w)))) | (apply kCallB; (first | exact aBlt | exact aLenR)))) | (apply kOLoad; (first | exact aLdF | exact aLdR)) | exact ov_fieldAddr rfl | (apply kOIdx; (first | exact aIdx)) | exact aRest | exact aNew | exact (ov_field1 (ft := 31) rfl rfl rfl rfl))) | (refine kN ?_; (first | (refine kStore ?_; (first | refine s_store1 _ rfl rfl gpA rfl (by rfl) ?_ | refine s_storeS _ rfl rfl gpA rfl rfl (by rfl) ?_ | refine s_storeS _ rfl rfl gpA rfl (ones_img oiA) (by rfl) ?_)) | refine s_boxS rfl rfl (fun b hb => ?_) | refine s_allocS rfl (fun b hb => ?_) | refine s_box1 rfl rfl rfl (fun b hb => ?_) | refine s_alloc1 rfl rfl (fun b hb => ?_) | refine s_buildSlice0 rfl (fun b hb => ?_) | refine s_buildSlice rfl rfl rfl rfl rfl (fun b hb => ?_) | apply s_step)) | (refine kG ?_; (first | refine s_gyes rfl rfl rfl ?_ | refine s_gno rfl rfl rfl rfl rfl ?_ | ((first | refine s_split_d rfl rfl (fun h => ?_) (fun h => ?_) | refine s_split_n rfl rfl (fun h => ?_) (fun h => ?_)) <;> (try (first | contradiction | (exfalso; omega)))) | refine s_split_nb rfl rfl (fun h => ?_) (fun h => ?_) | refine s_split rfl rfl (fun h => ?_) (fun h => ?_))) | refine l_then ?_ | (refine kC ?_; (first | refine c_seq ?_ | refine c_regionN rfl ?_ | refine c_ret ?_ | (refine kCond ?_; (first | refine c_cond_t rfl ?_ | refine c_cond_f rfl ?_ | ((first | refine c_cond_d rfl (fun h => ?_) (fun h => ?_) | refine c_cond_n rfl (fun h => ?_) (fun h => ?_)) <;> (try (first | contradiction | (exfalso; omega)))) | refine c_cond_nb rfl (fun h => ?_) (fun h => ?_) | refine c_cond rfl (fun h => ?_) (fun h => ?_))) | refine c_block ?_ | refine c_skip ?_ | refine c_exit ?_ | refine c_regionQN rfl rfl (by decide +kernel) ?_)) | apply s_stepQ | (refine kQG ?_; (first | refine s_gyesQ rfl rfl rfl ?_ | refine s_gnoQ rfl rfl rfl rfl rfl ?_ | ((first | refine s_splitQ_d rfl rfl (fun h => ?_) (fun h => ?_) | refine s_splitQ_n rfl rfl (fun h => ?_) (fun h => ?_)) <;> (try (first | contradiction | (exfalso; omega)))) | refine s_splitQ_nb rfl rfl (fun h => ?_) (fun h => ?_) | refine s_splitQ rfl rfl (fun h => ?_) (fun h => ?_))) | refine lQ_then ?_ | refine lQ_ends ?_ | (refine kE ?_; (first | refine e_then_r ?_ | refine e_block_r ?_ | refine e_then_n ?_ | refine e_then_x ?_ | refine e_block_n ?_ | refine e_block_x ?_ | refine e_block_y rfl ?_)) | refine l_ends ?_)
  all_goals refine s_leave1 rfl rfl (fun w hw => ⟨?_, hw.below⟩)
  all_goals first | (refine ret_false (fun hh => ?_); unfold DRect.ok at hh; omega) | exact ret_dec (by unfold DRect.ok; omega)
theorem c_srectOk (r : DRect) (w : World) : SYields Tryz.prog 164 #[vRect r] (.bool (decide r.ok)) w := by
  (first | apply SYields.mk | apply SYieldsF.mk | skip); refine s_enter Tryz.func164 rfl Tryz.ntmps164 rfl ?_
  repeat' (first | exact rfl | (apply kO; (first | exact ov_pure rfl | (apply kOBin; (first | exact aBin)) | (apply kOCall; (first | (apply kCallF; (first | exact (ov_call rfl (fun w hw => c_l01In _ _ _ w)))) | (apply kCallB; (first | exact aBlt | exact aLenR)))) | (apply kOLoad; (first | exact aLdF | exact aLdR)) | exact ov_fieldAddr rfl | (apply kOIdx; (first | exact aIdx)) | exact aRest | exact aNew | exact (ov_field1 (ft := 31) rfl rfl rfl rfl))) | (refine kN ?_; (first | (refine kStore ?_; (first | refine s_store1 _ rfl rfl gpA rfl (by rfl) ?_ | refine s_storeS _ rfl rfl gpA rfl rfl (by rfl) ?_ | refine s_storeS _ rfl rfl gpA rfl (ones_img oiA) (by rfl) ?_)) | refine s_boxS rfl rfl (fun b hb => ?_) | refine s_allocS rfl (fun b hb => ?_) | refine s_box1 rfl rfl rfl (fun b hb => ?_) | refine s_alloc1 rfl rfl (fun b hb => ?_) | refine s_buildSlice0 rfl (fun b hb => ?_) | refine s_buildSlice rfl rfl rfl rfl rfl (fun b hb => ?_) | apply s_step)) | (refine kG ?_; (first | refine s_gyes rfl rfl rfl ?_ | refine s_gno rfl rfl rfl rfl rfl ?_ | ((first | refine s_split_d rfl rfl (fun h => ?_) (fun h => ?_) | refine s_split_n rfl rfl (fun h => ?_) (fun h => ?_)) <;> (try (first | contradiction | (exfalso; omega)))) | refine s_split_nb rfl rfl (fun h => ?_) (fun h => ?_) | refine s_split rfl rfl (fun h => ?_) (fun h => ?_))) | refine l_then ?_ | (refine kC ?_; (first | refine c_seq ?_ | refine c_regionN rfl ?_ | refine c_ret ?_ | (refine kCond ?_; (first | refine c_cond_t rfl ?_ | refine c_cond_f rfl ?_ | ((first | refine c_cond_d rfl (fun h => ?_) (fun h => ?_) | refine c_cond_n rfl (fun h => ?_) (fun h => ?_)) <;> (try (first | contradiction | (exfalso; omega)))) | refine c_cond_nb rfl (fun h => ?_) (fun h => ?_) | refine c_cond rfl (fun h => ?_) (fun h => ?_))) | refine c_block ?_ | refine c_skip ?_ | refine c_exit ?_ | refine c_regionQN rfl rfl (by decide +kernel) ?_)) | apply s_stepQ | (refine kQG ?_; (first | refine s_gyesQ rfl rfl rfl ?_ | refine s_gnoQ rfl rfl rfl rfl rfl ?_ | ((first | refine s_splitQ_d rfl rfl (fun h => ?_) (fun h => ?_) | refine s_splitQ_n rfl rfl (fun h => ?_) (fun h => ?_)) <;> (try (first | contradiction | (exfalso; omega)))) | refine s_splitQ_nb rfl rfl (fun h => ?_) (fun h => ?_) | refine s_splitQ rfl rfl (fun h => ?_) (fun h => ?_))) | refine lQ_then ?_ | refine lQ_ends ?_ | (refine kE ?_; (first | refine e_then_r ?_ | refine e_block_r ?_ | refine e_then_n ?_ | refine e_then_x ?_ | refine e_block_n ?_ | refine e_block_x ?_ | refine e_block_y rfl ?_)) | refine l_ends ?_)
  all_goals refine s_leave1 rfl rfl (fun w hw => ⟨?_, hw.below⟩)
  all_goals first | (refine ret_false (fun hh => ?_); unfold DRect.ok at hh; omega) | exact ret_dec (by unfold DRect.ok; omega)
theorem ret_rectv {a b c d : Int} {q : DRect} (h : (⟨a, b, c, d⟩ : DRect) = q) : Ending.returned (.agg [Value.int .i64 a, .int .i64 b, .int .i64 c, .int .i64 d].toArray) = .returned (vRect q) := by rw [← h]
theorem ret_pair {a b c d : Int} (h1 : a = c) (h2 : b = d) : Ending.returned (.tuple #[.int .i64 a, .int .i64 b]) = .returned (.tuple #[.int .i64 c, .int .i64 d]) := by rw [h1, h2]
theorem c_iintersect (p q : DRect) (w : World) : SYields Tryz.prog 106 #[vRect p, vRect q] (vRect (p.inter q)) w := by
  by_cases hp : p.ok
  · by_cases hq : q.ok
    · have hp' := hp
      have hq' := hq
      unfold DRect.ok at hp' hq'
      (first | apply SYields.mk | apply SYieldsF.mk | skip); refine s_enter Tryz.func106 rfl Tryz.ntmps106 rfl ?_
      repeat' (first | exact rfl | (apply kO; (first | exact ov_pure rfl | (apply kOBin; (first | exact aBin)) | (apply kOCall; (first | (apply kCallF; (first | exact (ov_call rfl (fun w hw => c_irectOk _ w)))) | (apply kCallB; (first | exact aBlt | exact aLenR)))) | (apply kOLoad; (first | exact aLdF | exact aLdR)) | exact ov_fieldAddr rfl | (apply kOIdx; (first | exact aIdx)) | exact aRest | exact aNew | exact (ov_field1 (ft := 31) rfl rfl rfl rfl))) | (refine kN ?_; (first | (refine kStore ?_; (first | refine s_store1 _ rfl rfl gpA rfl (by rfl) ?_ | refine s_storeS _ rfl rfl gpA rfl rfl (by rfl) ?_ | refine s_storeS _ rfl rfl gpA rfl (ones_img oiA) (by rfl) ?_)) | refine s_boxS rfl rfl (fun b hb => ?_) | refine s_allocS rfl (fun b hb => ?_) | refine s_box1 rfl rfl rfl (fun b hb => ?_) | refine s_alloc1 rfl rfl (fun b hb => ?_) | refine s_buildSlice0 rfl (fun b hb => ?_) | refine s_buildSlice rfl rfl rfl rfl rfl (fun b hb => ?_) | apply s_step)) | (refine kG ?_; (first | refine s_gyes rfl rfl rfl ?_ | refine s_gno rfl rfl rfl rfl rfl ?_ | ((first | refine s_split_d rfl rfl (fun h => ?_) (fun h => ?_) | refine s_split_n rfl rfl (fun h => ?_) (fun h => ?_)) <;> (try (first | contradiction | (exfalso; omega)))) | refine s_split_nb rfl rfl (fun h => ?_) (fun h => ?_) | refine s_split rfl rfl (fun h => ?_) (fun h => ?_))) | refine l_then ?_ | (refine kC ?_; (first | refine c_seq ?_ | refine c_regionN rfl ?_ | refine c_ret ?_ | (refine kCond ?_; (first | refine c_cond_t rfl ?_ | refine c_cond_f rfl ?_ | ((first | refine c_cond_d rfl (fun h => ?_) (fun h => ?_) | refine c_cond_n rfl (fun h => ?_) (fun h => ?_)) <;> (try (first | contradiction | (exfalso; omega)))) | refine c_cond_nb rfl (fun h => ?_) (fun h => ?_) | refine c_cond rfl (fun h => ?_) (fun h => ?_))) | refine c_block ?_ | refine c_skip ?_ | refine c_exit ?_ | refine c_regionQN rfl rfl (by decide +kernel) ?_)) | apply s_stepQ | (refine kQG ?_; (first | refine s_gyesQ rfl rfl rfl ?_ | refine s_gnoQ rfl rfl rfl rfl rfl ?_ | ((first | refine s_splitQ_d rfl rfl (fun h => ?_) (fun h => ?_) | refine s_splitQ_n rfl rfl (fun h => ?_) (fun h => ?_)) <;> (try (first | contradiction | (exfalso; omega)))) | refine s_splitQ_nb rfl rfl (fun h => ?_) (fun h => ?_) | refine s_splitQ rfl rfl (fun h => ?_) (fun h => ?_))) | refine lQ_then ?_ | refine lQ_ends ?_ | (refine kE ?_; (first | refine e_then_r ?_ | refine e_block_r ?_ | refine e_then_n ?_ | refine e_then_x ?_ | refine e_block_n ?_ | refine e_block_x ?_ | refine e_block_y rfl ?_)) | refine l_ends ?_)
      all_goals (refine kE ?_; refine s_leaveSF rfl rfl rfl fwA (fun w hw => ?_))
      all_goals refine ⟨ret_rectv ?_, hw.below⟩
      all_goals (unfold DRect.inter; rw [if_pos ⟨hp, hq⟩]; first | rw [if_pos (by omega)]; rfl | rw [if_neg (by omega)])
    · (first | apply SYields.mk | apply SYieldsF.mk | skip); refine s_enter Tryz.func106 rfl Tryz.ntmps106 rfl ?_
      repeat' (first | exact rfl | (apply kO; (first | exact ov_pure rfl | (apply kOBin; (first | exact aBin)) | (apply kOCall; (first | (apply kCallF; (first | exact (ov_call rfl (fun w hw => c_irectOk _ w)))) | (apply kCallB; (first | exact aBlt | exact aLenR)))) | (apply kOLoad; (first | exact aLdF | exact aLdR)) | exact ov_fieldAddr rfl | (apply kOIdx; (first | exact aIdx)) | exact aRest | exact aNew | exact (ov_field1 (ft := 31) rfl rfl rfl rfl))) | (refine kN ?_; (first | (refine kStore ?_; (first | refine s_store1 _ rfl rfl gpA rfl (by rfl) ?_ | refine s_storeS _ rfl rfl gpA rfl rfl (by rfl) ?_ | refine s_storeS _ rfl rfl gpA rfl (ones_img oiA) (by rfl) ?_)) | refine s_boxS rfl rfl (fun b hb => ?_) | refine s_allocS rfl (fun b hb => ?_) | refine s_box1 rfl rfl rfl (fun b hb => ?_) | refine s_alloc1 rfl rfl (fun b hb => ?_) | refine s_buildSlice0 rfl (fun b hb => ?_) | refine s_buildSlice rfl rfl rfl rfl rfl (fun b hb => ?_) | apply s_step)) | (refine kG ?_; (first | refine s_gyes rfl rfl rfl ?_ | refine s_gno rfl rfl rfl rfl rfl ?_ | ((first | refine s_split_d rfl rfl (fun h => ?_) (fun h => ?_) | refine s_split_n rfl rfl (fun h => ?_) (fun h => ?_)) <;> (try (first | contradiction | (exfalso; omega)))) | refine s_split_nb rfl rfl (fun h => ?_) (fun h => ?_) | refine s_split rfl rfl (fun h => ?_) (fun h => ?_))) | refine l_then ?_ | (refine kC ?_; (first | refine c_seq ?_ | refine c_regionN rfl ?_ | refine c_ret ?_ | (refine kCond ?_; (first | refine c_cond_t rfl ?_ | refine c_cond_f rfl ?_ | ((first | refine c_cond_d rfl (fun h => ?_) (fun h => ?_) | refine c_cond_n rfl (fun h => ?_) (fun h => ?_)) <;> (try (first | contradiction | (exfalso; omega)))) | refine c_cond_nb rfl (fun h => ?_) (fun h => ?_) | refine c_cond rfl (fun h => ?_) (fun h => ?_))) | refine c_block ?_ | refine c_skip ?_ | refine c_exit ?_ | refine c_regionQN rfl rfl (by decide +kernel) ?_)) | apply s_stepQ | (refine kQG ?_; (first | refine s_gyesQ rfl rfl rfl ?_ | refine s_gnoQ rfl rfl rfl rfl rfl ?_ | ((first | refine s_splitQ_d rfl rfl (fun h => ?_) (fun h => ?_) | refine s_splitQ_n rfl rfl (fun h => ?_) (fun h => ?_)) <;> (try (first | contradiction | (exfalso; omega)))) | refine s_splitQ_nb rfl rfl (fun h => ?_) (fun h => ?_) | refine s_splitQ rfl rfl (fun h => ?_) (fun h => ?_))) | refine lQ_then ?_ | refine lQ_ends ?_ | (refine kE ?_; (first | refine e_then_r ?_ | refine e_block_r ?_ | refine e_then_n ?_ | refine e_then_x ?_ | refine e_block_n ?_ | refine e_block_x ?_ | refine e_block_y rfl ?_)) | refine l_ends ?_)
      all_goals (refine kE ?_; refine s_leaveSF rfl rfl rfl fwA (fun w hw => ?_))
      all_goals refine ⟨ret_rectv ?_, hw.below⟩
      all_goals (unfold DRect.inter; rw [if_neg (fun h => hq h.2)]; rfl)
  · (first | apply SYields.mk | apply SYieldsF.mk | skip); refine s_enter Tryz.func106 rfl Tryz.ntmps106 rfl ?_
    repeat' (first | exact rfl | (apply kO; (first | exact ov_pure rfl | (apply kOBin; (first | exact aBin)) | (apply kOCall; (first | (apply kCallF; (first | exact (ov_call rfl (fun w hw => c_irectOk _ w)))) | (apply kCallB; (first | exact aBlt | exact aLenR)))) | (apply kOLoad; (first | exact aLdF | exact aLdR)) | exact ov_fieldAddr rfl | (apply kOIdx; (first | exact aIdx)) | exact aRest | exact aNew | exact (ov_field1 (ft := 31) rfl rfl rfl rfl))) | (refine kN ?_; (first | (refine kStore ?_; (first | refine s_store1 _ rfl rfl gpA rfl (by rfl) ?_ | refine s_storeS _ rfl rfl gpA rfl rfl (by rfl) ?_ | refine s_storeS _ rfl rfl gpA rfl (ones_img oiA) (by rfl) ?_)) | refine s_boxS rfl rfl (fun b hb => ?_) | refine s_allocS rfl (fun b hb => ?_) | refine s_box1 rfl rfl rfl (fun b hb => ?_) | refine s_alloc1 rfl rfl (fun b hb => ?_) | refine s_buildSlice0 rfl (fun b hb => ?_) | refine s_buildSlice rfl rfl rfl rfl rfl (fun b hb => ?_) | apply s_step)) | (refine kG ?_; (first | refine s_gyes rfl rfl rfl ?_ | refine s_gno rfl rfl rfl rfl rfl ?_ | ((first | refine s_split_d rfl rfl (fun h => ?_) (fun h => ?_) | refine s_split_n rfl rfl (fun h => ?_) (fun h => ?_)) <;> (try (first | contradiction | (exfalso; omega)))) | refine s_split_nb rfl rfl (fun h => ?_) (fun h => ?_) | refine s_split rfl rfl (fun h => ?_) (fun h => ?_))) | refine l_then ?_ | (refine kC ?_; (first | refine c_seq ?_ | refine c_regionN rfl ?_ | refine c_ret ?_ | (refine kCond ?_; (first | refine c_cond_t rfl ?_ | refine c_cond_f rfl ?_ | ((first | refine c_cond_d rfl (fun h => ?_) (fun h => ?_) | refine c_cond_n rfl (fun h => ?_) (fun h => ?_)) <;> (try (first | contradiction | (exfalso; omega)))) | refine c_cond_nb rfl (fun h => ?_) (fun h => ?_) | refine c_cond rfl (fun h => ?_) (fun h => ?_))) | refine c_block ?_ | refine c_skip ?_ | refine c_exit ?_ | refine c_regionQN rfl rfl (by decide +kernel) ?_)) | apply s_stepQ | (refine kQG ?_; (first | refine s_gyesQ rfl rfl rfl ?_ | refine s_gnoQ rfl rfl rfl rfl rfl ?_ | ((first | refine s_splitQ_d rfl rfl (fun h => ?_) (fun h => ?_) | refine s_splitQ_n rfl rfl (fun h => ?_) (fun h => ?_)) <;> (try (first | contradiction | (exfalso; omega)))) | refine s_splitQ_nb rfl rfl (fun h => ?_) (fun h => ?_) | refine s_splitQ rfl rfl (fun h => ?_) (fun h => ?_))) | refine lQ_then ?_ | refine lQ_ends ?_ | (refine kE ?_; (first | refine e_then_r ?_ | refine e_block_r ?_ | refine e_then_n ?_ | refine e_then_x ?_ | refine e_block_n ?_ | refine e_block_x ?_ | refine e_block_y rfl ?_)) | refine l_ends ?_)
    all_goals (refine kE ?_; refine s_leaveSF rfl rfl rfl fwA (fun w hw => ?_))
    all_goals refine ⟨ret_rectv ?_, hw.below⟩
    all_goals (unfold DRect.inter; rw [if_neg (fun h => hp h.1)]; rfl)
theorem c_sintersect (p q : DRect) (w : World) : SYields Tryz.prog 120 #[vRect p, vRect q] (vRect (p.inter q)) w := by
  by_cases hp : p.ok
  · by_cases hq : q.ok
    · have hp' := hp
      have hq' := hq
      unfold DRect.ok at hp' hq'
      (first | apply SYields.mk | apply SYieldsF.mk | skip); refine s_enter Tryz.func120 rfl Tryz.ntmps120 rfl ?_
      repeat' (first | exact rfl | (apply kO; (first | exact ov_pure rfl | (apply kOBin; (first | exact aBin)) | (apply kOCall; (first | (apply kCallF; (first | exact (ov_call rfl (fun w hw => c_srectOk _ w)))) | (apply kCallB; (first | exact aBlt | exact aLenR)))) | (apply kOLoad; (first | exact aLdF | exact aLdR)) | exact ov_fieldAddr rfl | (apply kOIdx; (first | exact aIdx)) | exact aRest | exact aNew | exact (ov_field1 (ft := 31) rfl rfl rfl rfl))) | (refine kN ?_; (first | (refine kStore ?_; (first | refine s_store1 _ rfl rfl gpA rfl (by rfl) ?_ | refine s_storeS _ rfl rfl gpA rfl rfl (by rfl) ?_ | refine s_storeS _ rfl rfl gpA rfl (ones_img oiA) (by rfl) ?_)) | refine s_boxS rfl rfl (fun b hb => ?_) | refine s_allocS rfl (fun b hb => ?_) | refine s_box1 rfl rfl rfl (fun b hb => ?_) | refine s_alloc1 rfl rfl (fun b hb => ?_) | refine s_buildSlice0 rfl (fun b hb => ?_) | refine s_buildSlice rfl rfl rfl rfl rfl (fun b hb => ?_) | apply s_step)) | (refine kG ?_; (first | refine s_gyes rfl rfl rfl ?_ | refine s_gno rfl rfl rfl rfl rfl ?_ | ((first | refine s_split_d rfl rfl (fun h => ?_) (fun h => ?_) | refine s_split_n rfl rfl (fun h => ?_) (fun h => ?_)) <;> (try (first | contradiction | (exfalso; omega)))) | refine s_split_nb rfl rfl (fun h => ?_) (fun h => ?_) | refine s_split rfl rfl (fun h => ?_) (fun h => ?_))) | refine l_then ?_ | (refine kC ?_; (first | refine c_seq ?_ | refine c_regionN rfl ?_ | refine c_ret ?_ | (refine kCond ?_; (first | refine c_cond_t rfl ?_ | refine c_cond_f rfl ?_ | ((first | refine c_cond_d rfl (fun h => ?_) (fun h => ?_) | refine c_cond_n rfl (fun h => ?_) (fun h => ?_)) <;> (try (first | contradiction | (exfalso; omega)))) | refine c_cond_nb rfl (fun h => ?_) (fun h => ?_) | refine c_cond rfl (fun h => ?_) (fun h => ?_))) | refine c_block ?_ | refine c_skip ?_ | refine c_exit ?_ | refine c_regionQN rfl rfl (by decide +kernel) ?_)) | apply s_stepQ | (refine kQG ?_; (first | refine s_gyesQ rfl rfl rfl ?_ | refine s_gnoQ rfl rfl rfl rfl rfl ?_ | ((first | refine s_splitQ_d rfl rfl (fun h => ?_) (fun h => ?_) | refine s_splitQ_n rfl rfl (fun h => ?_) (fun h => ?_)) <;> (try (first | contradiction | (exfalso; omega)))) | refine s_splitQ_nb rfl rfl (fun h => ?_) (fun h => ?_) | refine s_splitQ rfl rfl (fun h => ?_) (fun h => ?_))) | refine lQ_then ?_ | refine lQ_ends ?_ | (refine kE ?_; (first | refine e_then_r ?_ | refine e_block_r ?_ | refine e_then_n ?_ | refine e_then_x ?_ | refine e_block_n ?_ | refine e_block_x ?_ | refine e_block_y rfl ?_)) | refine l_ends ?_)
      all_goals (refine kE ?_; refine s_leaveSF rfl rfl rfl fwA (fun w hw => ?_))
      all_goals refine ⟨ret_rectv ?_, hw.below⟩
      all_goals (unfold DRect.inter; rw [if_pos ⟨hp, hq⟩]; first | rw [if_pos (by omega)]; rfl | rw [if_neg (by omega)])
    · (first | apply SYields.mk | apply SYieldsF.mk | skip); refine s_enter Tryz.func120 rfl Tryz.ntmps120 rfl ?_
      repeat' (first | exact rfl | (apply kO; (first | exact ov_pure rfl | (apply kOBin; (first | exact aBin)) | (apply kOCall; (first | (apply kCallF; (first | exact (ov_call rfl (fun w hw => c_srectOk _ w)))) | (apply kCallB; (first | exact aBlt | exact aLenR)))) | (apply kOLoad; (first | exact aLdF | exact aLdR)) | exact ov_fieldAddr rfl | (apply kOIdx; (first | exact aIdx)) | exact aRest | exact aNew | exact (ov_field1 (ft := 31) rfl rfl rfl rfl))) | (refine kN ?_; (first | (refine kStore ?_; (first | refine s_store1 _ rfl rfl gpA rfl (by rfl) ?_ | refine s_storeS _ rfl rfl gpA rfl rfl (by rfl) ?_ | refine s_storeS _ rfl rfl gpA rfl (ones_img oiA) (by rfl) ?_)) | refine s_boxS rfl rfl (fun b hb => ?_) | refine s_allocS rfl (fun b hb => ?_) | refine s_box1 rfl rfl rfl (fun b hb => ?_) | refine s_alloc1 rfl rfl (fun b hb => ?_) | refine s_buildSlice0 rfl (fun b hb => ?_) | refine s_buildSlice rfl rfl rfl rfl rfl (fun b hb => ?_) | apply s_step)) | (refine kG ?_; (first | refine s_gyes rfl rfl rfl ?_ | refine s_gno rfl rfl rfl rfl rfl ?_ | ((first | refine s_split_d rfl rfl (fun h => ?_) (fun h => ?_) | refine s_split_n rfl rfl (fun h => ?_) (fun h => ?_)) <;> (try (first | contradiction | (exfalso; omega)))) | refine s_split_nb rfl rfl (fun h => ?_) (fun h => ?_) | refine s_split rfl rfl (fun h => ?_) (fun h => ?_))) | refine l_then ?_ | (refine kC ?_; (first | refine c_seq ?_ | refine c_regionN rfl ?_ | refine c_ret ?_ | (refine kCond ?_; (first | refine c_cond_t rfl ?_ | refine c_cond_f rfl ?_ | ((first | refine c_cond_d rfl (fun h => ?_) (fun h => ?_) | refine c_cond_n rfl (fun h => ?_) (fun h => ?_)) <;> (try (first | contradiction | (exfalso; omega)))) | refine c_cond_nb rfl (fun h => ?_) (fun h => ?_) | refine c_cond rfl (fun h => ?_) (fun h => ?_))) | refine c_block ?_ | refine c_skip ?_ | refine c_exit ?_ | refine c_regionQN rfl rfl (by decide +kernel) ?_)) | apply s_stepQ | (refine kQG ?_; (first | refine s_gyesQ rfl rfl rfl ?_ | refine s_gnoQ rfl rfl rfl rfl rfl ?_ | ((first | refine s_splitQ_d rfl rfl (fun h => ?_) (fun h => ?_) | refine s_splitQ_n rfl rfl (fun h => ?_) (fun h => ?_)) <;> (try (first | contradiction | (exfalso; omega)))) | refine s_splitQ_nb rfl rfl (fun h => ?_) (fun h => ?_) | refine s_splitQ rfl rfl (fun h => ?_) (fun h => ?_))) | refine lQ_then ?_ | refine lQ_ends ?_ | (refine kE ?_; (first | refine e_then_r ?_ | refine e_block_r ?_ | refine e_then_n ?_ | refine e_then_x ?_ | refine e_block_n ?_ | refine e_block_x ?_ | refine e_block_y rfl ?_)) | refine l_ends ?_)
      all_goals (refine kE ?_; refine s_leaveSF rfl rfl rfl fwA (fun w hw => ?_))
      all_goals refine ⟨ret_rectv ?_, hw.below⟩
      all_goals (unfold DRect.inter; rw [if_neg (fun h => hq h.2)]; rfl)
  · (first | apply SYields.mk | apply SYieldsF.mk | skip); refine s_enter Tryz.func120 rfl Tryz.ntmps120 rfl ?_
    repeat' (first | exact rfl | (apply kO; (first | exact ov_pure rfl | (apply kOBin; (first | exact aBin)) | (apply kOCall; (first | (apply kCallF; (first | exact (ov_call rfl (fun w hw => c_srectOk _ w)))) | (apply kCallB; (first | exact aBlt | exact aLenR)))) | (apply kOLoad; (first | exact aLdF | exact aLdR)) | exact ov_fieldAddr rfl | (apply kOIdx; (first | exact aIdx)) | exact aRest | exact aNew | exact (ov_field1 (ft := 31) rfl rfl rfl rfl))) | (refine kN ?_; (first | (refine kStore ?_; (first | refine s_store1 _ rfl rfl gpA rfl (by rfl) ?_ | refine s_storeS _ rfl rfl gpA rfl rfl (by rfl) ?_ | refine s_storeS _ rfl rfl gpA rfl (ones_img oiA) (by rfl) ?_)) | refine s_boxS rfl rfl (fun b hb => ?_) | refine s_allocS rfl (fun b hb => ?_) | refine s_box1 rfl rfl rfl (fun b hb => ?_) | refine s_alloc1 rfl rfl (fun b hb => ?_) | refine s_buildSlice0 rfl (fun b hb => ?_) | refine s_buildSlice rfl rfl rfl rfl rfl (fun b hb => ?_) | apply s_step)) | (refine kG ?_; (first | refine s_gyes rfl rfl rfl ?_ | refine s_gno rfl rfl rfl rfl rfl ?_ | ((first | refine s_split_d rfl rfl (fun h => ?_) (fun h => ?_) | refine s_split_n rfl rfl (fun h => ?_) (fun h => ?_)) <;> (try (first | contradiction | (exfalso; omega)))) | refine s_split_nb rfl rfl (fun h => ?_) (fun h => ?_) | refine s_split rfl rfl (fun h => ?_) (fun h => ?_))) | refine l_then ?_ | (refine kC ?_; (first | refine c_seq ?_ | refine c_regionN rfl ?_ | refine c_ret ?_ | (refine kCond ?_; (first | refine c_cond_t rfl ?_ | refine c_cond_f rfl ?_ | ((first | refine c_cond_d rfl (fun h => ?_) (fun h => ?_) | refine c_cond_n rfl (fun h => ?_) (fun h => ?_)) <;> (try (first | contradiction | (exfalso; omega)))) | refine c_cond_nb rfl (fun h => ?_) (fun h => ?_) | refine c_cond rfl (fun h => ?_) (fun h => ?_))) | refine c_block ?_ | refine c_skip ?_ | refine c_exit ?_ | refine c_regionQN rfl rfl (by decide +kernel) ?_)) | apply s_stepQ | (refine kQG ?_; (first | refine s_gyesQ rfl rfl rfl ?_ | refine s_gnoQ rfl rfl rfl rfl rfl ?_ | ((first | refine s_splitQ_d rfl rfl (fun h => ?_) (fun h => ?_) | refine s_splitQ_n rfl rfl (fun h => ?_) (fun h => ?_)) <;> (try (first | contradiction | (exfalso; omega)))) | refine s_splitQ_nb rfl rfl (fun h => ?_) (fun h => ?_) | refine s_splitQ rfl rfl (fun h => ?_) (fun h => ?_))) | refine lQ_then ?_ | refine lQ_ends ?_ | (refine kE ?_; (first | refine e_then_r ?_ | refine e_block_r ?_ | refine e_then_n ?_ | refine e_then_x ?_ | refine e_block_n ?_ | refine e_block_x ?_ | refine e_block_y rfl ?_)) | refine l_ends ?_)
    all_goals (refine kE ?_; refine s_leaveSF rfl rfl rfl fwA (fun w hw => ?_))
    all_goals refine ⟨ret_rectv ?_, hw.below⟩
    all_goals (unfold DRect.inter; rw [if_neg (fun h => hp h.1)]; rfl)
theorem c_iorientSize (w h o : Int) (W : World) : SYields Tryz.prog 174 #[.int .i64 w, .int .i64 h, .int .i64 o] (.tuple #[.int .i64 (orientSize w h o).1, .int .i64 (orientSize w h o).2]) W := by
  (first | apply SYields.mk | apply SYieldsF.mk | skip); refine s_enter Tryz.func174 rfl Tryz.ntmps174 rfl ?_
  repeat' (first | exact rfl | (apply kO; (first | exact ov_pure rfl | (apply kOBin; (first | exact aBin)) | (apply kOCall; (first | (apply kCallF; (first | exact (ov_call rfl (fun w hw => c_isSide _ w)) | exact (ov_call rfl (fun w hw => c_isOrient _ w)))) | (apply kCallB; (first | exact aBlt | exact aLenR)))) | (apply kOLoad; (first | exact aLdF | exact aLdR)) | exact ov_fieldAddr rfl | (apply kOIdx; (first | exact aIdx)) | exact aRest | exact aNew | exact (ov_field1 (ft := 31) rfl rfl rfl rfl))) | (refine kN ?_; (first | (refine kStore ?_; (first | refine s_store1 _ rfl rfl gpA rfl (by rfl) ?_ | refine s_storeS _ rfl rfl gpA rfl rfl (by rfl) ?_ | refine s_storeS _ rfl rfl gpA rfl (ones_img oiA) (by rfl) ?_)) | refine s_boxS rfl rfl (fun b hb => ?_) | refine s_allocS rfl (fun b hb => ?_) | refine s_box1 rfl rfl rfl (fun b hb => ?_) | refine s_alloc1 rfl rfl (fun b hb => ?_) | refine s_buildSlice0 rfl (fun b hb => ?_) | refine s_buildSlice rfl rfl rfl rfl rfl (fun b hb => ?_) | apply s_step)) | (refine kG ?_; (first | refine s_gyes rfl rfl rfl ?_ | refine s_gno rfl rfl rfl rfl rfl ?_ | ((first | refine s_split_d rfl rfl (fun h => ?_) (fun h => ?_) | refine s_split_n rfl rfl (fun h => ?_) (fun h => ?_)) <;> (try (first | contradiction | (exfalso; omega)))) | refine s_split_nb rfl rfl (fun h => ?_) (fun h => ?_) | refine s_split rfl rfl (fun h => ?_) (fun h => ?_))) | refine l_then ?_ | (refine kC ?_; (first | refine c_seq ?_ | refine c_regionN rfl ?_ | refine c_ret ?_ | (refine kCond ?_; (first | refine c_cond_t rfl ?_ | refine c_cond_f rfl ?_ | ((first | refine c_cond_d rfl (fun h => ?_) (fun h => ?_) | refine c_cond_n rfl (fun h => ?_) (fun h => ?_)) <;> (try (first | contradiction | (exfalso; omega)))) | refine c_cond_nb rfl (fun h => ?_) (fun h => ?_) | refine c_cond rfl (fun h => ?_) (fun h => ?_))) | refine c_block ?_ | refine c_skip ?_ | refine c_exit ?_ | refine c_regionQN rfl rfl (by decide +kernel) ?_)) | apply s_stepQ | (refine kQG ?_; (first | refine s_gyesQ rfl rfl rfl ?_ | refine s_gnoQ rfl rfl rfl rfl rfl ?_ | ((first | refine s_splitQ_d rfl rfl (fun h => ?_) (fun h => ?_) | refine s_splitQ_n rfl rfl (fun h => ?_) (fun h => ?_)) <;> (try (first | contradiction | (exfalso; omega)))) | refine s_splitQ_nb rfl rfl (fun h => ?_) (fun h => ?_) | refine s_splitQ rfl rfl (fun h => ?_) (fun h => ?_))) | refine lQ_then ?_ | refine lQ_ends ?_ | (refine kE ?_; (first | refine e_then_r ?_ | refine e_block_r ?_ | refine e_then_n ?_ | refine e_then_x ?_ | refine e_block_n ?_ | refine e_block_x ?_ | refine e_block_y rfl ?_)) | refine l_ends ?_)
  all_goals refine s_leave2 rfl rfl rfl (fun w hw => ⟨?_, hw.below⟩)
  all_goals (unfold orientSize; first | (rw [if_neg (by unfold orientOk; omega)]; done) | (rw [if_pos (by unfold orientOk; omega)]; first | (rw [if_pos (by omega)]; done) | rw [if_neg (by omega)]))
theorem c_sorientSize (w h o : Int) (W : World) : SYields Tryz.prog 160 #[.int .i64 w, .int .i64 h, .int .i64 o] (.tuple #[.int .i64 (orientSize w h o).1, .int .i64 (orientSize w h o).2]) W := by
  (first | apply SYields.mk | apply SYieldsF.mk | skip); refine s_enter Tryz.func160 rfl Tryz.ntmps160 rfl ?_
  repeat' (first | exact rfl | (apply kO; (first | exact ov_pure rfl | (apply kOBin; (first | exact aBin)) | (apply kOCall; (first | (apply kCallF; (first | exact (ov_call rfl (fun w hw => c_l01In _ _ _ w)))) | (apply kCallB; (first | exact aBlt | exact aLenR)))) | (apply kOLoad; (first | exact aLdF | exact aLdR)) | exact ov_fieldAddr rfl | (apply kOIdx; (first | exact aIdx)) | exact aRest | exact aNew | exact (ov_field1 (ft := 31) rfl rfl rfl rfl))) | (refine kN ?_; (first | (refine kStore ?_; (first | refine s_store1 _ rfl rfl gpA rfl (by rfl) ?_ | refine s_storeS _ rfl rfl gpA rfl rfl (by rfl) ?_ | refine s_storeS _ rfl rfl gpA rfl (ones_img oiA) (by rfl) ?_)) | refine s_boxS rfl rfl (fun b hb => ?_) | refine s_allocS rfl (fun b hb => ?_) | refine s_box1 rfl rfl rfl (fun b hb => ?_) | refine s_alloc1 rfl rfl (fun b hb => ?_) | refine s_buildSlice0 rfl (fun b hb => ?_) | refine s_buildSlice rfl rfl rfl rfl rfl (fun b hb => ?_) | apply s_step)) | (refine kG ?_; (first | refine s_gyes rfl rfl rfl ?_ | refine s_gno rfl rfl rfl rfl rfl ?_ | ((first | refine s_split_d rfl rfl (fun h => ?_) (fun h => ?_) | refine s_split_n rfl rfl (fun h => ?_) (fun h => ?_)) <;> (try (first | contradiction | (exfalso; omega)))) | refine s_split_nb rfl rfl (fun h => ?_) (fun h => ?_) | refine s_split rfl rfl (fun h => ?_) (fun h => ?_))) | refine l_then ?_ | (refine kC ?_; (first | refine c_seq ?_ | refine c_regionN rfl ?_ | refine c_ret ?_ | (refine kCond ?_; (first | refine c_cond_t rfl ?_ | refine c_cond_f rfl ?_ | ((first | refine c_cond_d rfl (fun h => ?_) (fun h => ?_) | refine c_cond_n rfl (fun h => ?_) (fun h => ?_)) <;> (try (first | contradiction | (exfalso; omega)))) | refine c_cond_nb rfl (fun h => ?_) (fun h => ?_) | refine c_cond rfl (fun h => ?_) (fun h => ?_))) | refine c_block ?_ | refine c_skip ?_ | refine c_exit ?_ | refine c_regionQN rfl rfl (by decide +kernel) ?_)) | apply s_stepQ | (refine kQG ?_; (first | refine s_gyesQ rfl rfl rfl ?_ | refine s_gnoQ rfl rfl rfl rfl rfl ?_ | ((first | refine s_splitQ_d rfl rfl (fun h => ?_) (fun h => ?_) | refine s_splitQ_n rfl rfl (fun h => ?_) (fun h => ?_)) <;> (try (first | contradiction | (exfalso; omega)))) | refine s_splitQ_nb rfl rfl (fun h => ?_) (fun h => ?_) | refine s_splitQ rfl rfl (fun h => ?_) (fun h => ?_))) | refine lQ_then ?_ | refine lQ_ends ?_ | (refine kE ?_; (first | refine e_then_r ?_ | refine e_block_r ?_ | refine e_then_n ?_ | refine e_then_x ?_ | refine e_block_n ?_ | refine e_block_x ?_ | refine e_block_y rfl ?_)) | refine l_ends ?_)
  all_goals refine s_leave2 rfl rfl rfl (fun w hw => ⟨?_, hw.below⟩)
  all_goals (unfold orientSize; first | (rw [if_neg (by unfold orientOk; omega)]; done) | (rw [if_pos (by unfold orientOk; omega)]; first | (rw [if_pos (by omega)]; done) | rw [if_neg (by omega)]))
theorem c_surfaceSize (s : DSurf) (d : Value) (w : World) : SYields Tryz.prog 151 #[vSurf s d] (.tuple #[.int .i64 (surfSize s).1, .int .i64 (surfSize s).2]) w := by
  (first | apply SYields.mk | apply SYieldsF.mk | skip); refine s_enter Tryz.func151 rfl Tryz.ntmps151 rfl ?_
  repeat' (first | exact rfl | (apply kO; (first | exact ov_pure rfl | (apply kOBin; (first | exact aBin)) | (apply kOCall; (first | (apply kCallF; (first | exact (ov_call rfl (fun w hw => c_iorientSize _ _ _ w)))) | (apply kCallB; (first | exact aBlt | exact aLenR)))) | (apply kOLoad; (first | exact aLdF | exact aLdR)) | exact ov_fieldAddr rfl | (apply kOIdx; (first | exact aIdx)) | exact aRest | exact aNew | exact (ov_field1 (ft := 31) rfl rfl rfl rfl))) | (refine kN ?_; (first | (refine kStore ?_; (first | refine s_store1 _ rfl rfl gpA rfl (by rfl) ?_ | refine s_storeS _ rfl rfl gpA rfl rfl (by rfl) ?_ | refine s_storeS _ rfl rfl gpA rfl (ones_img oiA) (by rfl) ?_)) | refine s_boxS rfl rfl (fun b hb => ?_) | refine s_allocS rfl (fun b hb => ?_) | refine s_box1 rfl rfl rfl (fun b hb => ?_) | refine s_alloc1 rfl rfl (fun b hb => ?_) | refine s_buildSlice0 rfl (fun b hb => ?_) | refine s_buildSlice rfl rfl rfl rfl rfl (fun b hb => ?_) | apply s_step)) | (refine kG ?_; (first | refine s_gyes rfl rfl rfl ?_ | refine s_gno rfl rfl rfl rfl rfl ?_ | ((first | refine s_split_d rfl rfl (fun h => ?_) (fun h => ?_) | refine s_split_n rfl rfl (fun h => ?_) (fun h => ?_)) <;> (try (first | contradiction | (exfalso; omega)))) | refine s_split_nb rfl rfl (fun h => ?_) (fun h => ?_) | refine s_split rfl rfl (fun h => ?_) (fun h => ?_))) | refine l_then ?_ | (refine kC ?_; (first | refine c_seq ?_ | refine c_regionN rfl ?_ | refine c_ret ?_ | (refine kCond ?_; (first | refine c_cond_t rfl ?_ | refine c_cond_f rfl ?_ | ((first | refine c_cond_d rfl (fun h => ?_) (fun h => ?_) | refine c_cond_n rfl (fun h => ?_) (fun h => ?_)) <;> (try (first | contradiction | (exfalso; omega)))) | refine c_cond_nb rfl (fun h => ?_) (fun h => ?_) | refine c_cond rfl (fun h => ?_) (fun h => ?_))) | refine c_block ?_ | refine c_skip ?_ | refine c_exit ?_ | refine c_regionQN rfl rfl (by decide +kernel) ?_)) | apply s_stepQ | (refine kQG ?_; (first | refine s_gyesQ rfl rfl rfl ?_ | refine s_gnoQ rfl rfl rfl rfl rfl ?_ | ((first | refine s_splitQ_d rfl rfl (fun h => ?_) (fun h => ?_) | refine s_splitQ_n rfl rfl (fun h => ?_) (fun h => ?_)) <;> (try (first | contradiction | (exfalso; omega)))) | refine s_splitQ_nb rfl rfl (fun h => ?_) (fun h => ?_) | refine s_splitQ rfl rfl (fun h => ?_) (fun h => ?_))) | refine lQ_then ?_ | refine lQ_ends ?_ | (refine kE ?_; (first | refine e_then_r ?_ | refine e_block_r ?_ | refine e_then_n ?_ | refine e_then_x ?_ | refine e_block_n ?_ | refine e_block_x ?_ | refine e_block_y rfl ?_)) | refine l_ends ?_)
  all_goals refine s_leave2 rfl rfl rfl (fun w hw => ⟨?_, hw.below⟩)
  all_goals (unfold surfSize; first | (rw [if_pos (by assumption)]; done) | rw [if_neg (by assumption)])
theorem c_isurfaceRect (s : DSurf) (d : Value) (w : World) (hd : RInts w d s.buf.data) : SYields Tryz.prog 104 #[vSurf s d] (vRect (surfRect s)) w := by
  (first | apply SYields.mk | apply SYieldsF.mk | skip); refine s_enter Tryz.func104 rfl Tryz.ntmps104 rfl ?_
  repeat' (first | exact rfl | (apply kO; (first | exact ov_pure rfl | (apply kOBin; (first | exact aBin)) | (apply kOCall; (first | (apply kCallF; (first | exact (ov_call rfl (fun w hw => c_isurfaceOk s _ w (riA hw))) | exact (ov_call rfl (fun w hw => c_surfaceSize s _ w)))) | (apply kCallB; (first | exact aBlt | exact aLenR)))) | (apply kOLoad; (first | exact aLdF | exact aLdR)) | exact ov_fieldAddr rfl | (apply kOIdx; (first | exact aIdx)) | exact aRest | exact aNew | exact (ov_field1 (ft := 31) rfl rfl rfl rfl))) | (refine kN ?_; (first | (refine kStore ?_; (first | refine s_store1 _ rfl rfl gpA rfl (by rfl) ?_ | refine s_storeS _ rfl rfl gpA rfl rfl (by rfl) ?_ | refine s_storeS _ rfl rfl gpA rfl (ones_img oiA) (by rfl) ?_)) | refine s_boxS rfl rfl (fun b hb => ?_) | refine s_allocS rfl (fun b hb => ?_) | refine s_box1 rfl rfl rfl (fun b hb => ?_) | refine s_alloc1 rfl rfl (fun b hb => ?_) | refine s_buildSlice0 rfl (fun b hb => ?_) | refine s_buildSlice rfl rfl rfl rfl rfl (fun b hb => ?_) | apply s_step)) | (refine kG ?_; (first | refine s_gyes rfl rfl rfl ?_ | refine s_gno rfl rfl rfl rfl rfl ?_ | ((first | refine s_split_d rfl rfl (fun h => ?_) (fun h => ?_) | refine s_split_n rfl rfl (fun h => ?_) (fun h => ?_)) <;> (try (first | contradiction | (exfalso; omega)))) | refine s_split_nb rfl rfl (fun h => ?_) (fun h => ?_) | refine s_split rfl rfl (fun h => ?_) (fun h => ?_))) | refine l_then ?_ | (refine kC ?_; (first | refine c_seq ?_ | refine c_regionN rfl ?_ | refine c_ret ?_ | (refine kCond ?_; (first | refine c_cond_t rfl ?_ | refine c_cond_f rfl ?_ | ((first | refine c_cond_d rfl (fun h => ?_) (fun h => ?_) | refine c_cond_n rfl (fun h => ?_) (fun h => ?_)) <;> (try (first | contradiction | (exfalso; omega)))) | refine c_cond_nb rfl (fun h => ?_) (fun h => ?_) | refine c_cond rfl (fun h => ?_) (fun h => ?_))) | refine c_block ?_ | refine c_skip ?_ | refine c_exit ?_ | refine c_regionQN rfl rfl (by decide +kernel) ?_)) | apply s_stepQ | (refine kQG ?_; (first | refine s_gyesQ rfl rfl rfl ?_ | refine s_gnoQ rfl rfl rfl rfl rfl ?_ | ((first | refine s_splitQ_d rfl rfl (fun h => ?_) (fun h => ?_) | refine s_splitQ_n rfl rfl (fun h => ?_) (fun h => ?_)) <;> (try (first | contradiction | (exfalso; omega)))) | refine s_splitQ_nb rfl rfl (fun h => ?_) (fun h => ?_) | refine s_splitQ rfl rfl (fun h => ?_) (fun h => ?_))) | refine lQ_then ?_ | refine lQ_ends ?_ | (refine kE ?_; (first | refine e_then_r ?_ | refine e_block_r ?_ | refine e_then_n ?_ | refine e_then_x ?_ | refine e_block_n ?_ | refine e_block_x ?_ | refine e_block_y rfl ?_)) | refine l_ends ?_)
  all_goals (refine kE ?_; refine s_leaveSF rfl rfl rfl fwA (fun w hw => ?_))
  all_goals refine ⟨ret_rectv ?_, hw.below⟩
  all_goals (unfold surfRect; first | (rw [if_pos ⟨by assumption, by assumption⟩]; done) | (rw [if_neg (by intro hh; obtain ⟨h1, h2⟩ := hh; first | contradiction | simp_all)]; rfl))
theorem c_ssurfaceRect (s : DSurf) (d : Value) (w : World) (hd : RInts w d s.buf.data) : SYields Tryz.prog 118 #[vSurf s d] (vRect (surfRect s)) w := by
  by_cases hok : s.ok
  · have hsz := hok.2.2.2.1
    unfold DSurf.sized at hsz
    (first | apply SYields.mk | apply SYieldsF.mk | skip); refine s_enter Tryz.func118 rfl Tryz.ntmps118 rfl ?_
    repeat' (first | exact rfl | (apply kO; (first | exact ov_pure rfl | (apply kOBin; (first | exact aBin)) | (apply kOCall; (first | (apply kCallF; (first | exact (ov_call rfl (fun w hw => c_ssurfaceOk s _ w (riA hw))) | exact (ov_call rfl (fun w hw => c_sorientSize _ _ _ w)))) | (apply kCallB; (first | exact aBlt | exact aLenR)))) | (apply kOLoad; (first | exact aLdF | exact aLdR)) | exact ov_fieldAddr rfl | (apply kOIdx; (first | exact aIdx)) | exact aRest | exact aNew | exact (ov_field1 (ft := 31) rfl rfl rfl rfl))) | (refine kN ?_; (first | (refine kStore ?_; (first | refine s_store1 _ rfl rfl gpA rfl (by rfl) ?_ | refine s_storeS _ rfl rfl gpA rfl rfl (by rfl) ?_ | refine s_storeS _ rfl rfl gpA rfl (ones_img oiA) (by rfl) ?_)) | refine s_boxS rfl rfl (fun b hb => ?_) | refine s_allocS rfl (fun b hb => ?_) | refine s_box1 rfl rfl rfl (fun b hb => ?_) | refine s_alloc1 rfl rfl (fun b hb => ?_) | refine s_buildSlice0 rfl (fun b hb => ?_) | refine s_buildSlice rfl rfl rfl rfl rfl (fun b hb => ?_) | apply s_step)) | (refine kG ?_; (first | refine s_gyes rfl rfl rfl ?_ | refine s_gno rfl rfl rfl rfl rfl ?_ | ((first | refine s_split_d rfl rfl (fun h => ?_) (fun h => ?_) | refine s_split_n rfl rfl (fun h => ?_) (fun h => ?_)) <;> (try (first | contradiction | (exfalso; omega)))) | refine s_split_nb rfl rfl (fun h => ?_) (fun h => ?_) | refine s_split rfl rfl (fun h => ?_) (fun h => ?_))) | refine l_then ?_ | (refine kC ?_; (first | refine c_seq ?_ | refine c_regionN rfl ?_ | refine c_ret ?_ | (refine kCond ?_; (first | refine c_cond_t rfl ?_ | refine c_cond_f rfl ?_ | ((first | refine c_cond_d rfl (fun h => ?_) (fun h => ?_) | refine c_cond_n rfl (fun h => ?_) (fun h => ?_)) <;> (try (first | contradiction | (exfalso; omega)))) | refine c_cond_nb rfl (fun h => ?_) (fun h => ?_) | refine c_cond rfl (fun h => ?_) (fun h => ?_))) | refine c_block ?_ | refine c_skip ?_ | refine c_exit ?_ | refine c_regionQN rfl rfl (by decide +kernel) ?_)) | apply s_stepQ | (refine kQG ?_; (first | refine s_gyesQ rfl rfl rfl ?_ | refine s_gnoQ rfl rfl rfl rfl rfl ?_ | ((first | refine s_splitQ_d rfl rfl (fun h => ?_) (fun h => ?_) | refine s_splitQ_n rfl rfl (fun h => ?_) (fun h => ?_)) <;> (try (first | contradiction | (exfalso; omega)))) | refine s_splitQ_nb rfl rfl (fun h => ?_) (fun h => ?_) | refine s_splitQ rfl rfl (fun h => ?_) (fun h => ?_))) | refine lQ_then ?_ | refine lQ_ends ?_ | (refine kE ?_; (first | refine e_then_r ?_ | refine e_block_r ?_ | refine e_then_n ?_ | refine e_then_x ?_ | refine e_block_n ?_ | refine e_block_x ?_ | refine e_block_y rfl ?_)) | refine l_ends ?_)
    all_goals (refine kE ?_; refine s_leaveSF rfl rfl rfl fwA (fun w hw => ?_))
    all_goals refine ⟨ret_rectv ?_, hw.below⟩
    all_goals (unfold surfRect; first | (rw [if_pos ⟨hok, by assumption⟩]; unfold surfSize; first | (rw [if_pos (by omega)]; done) | (rw [if_neg (by omega)]; done)) | (rw [if_neg (by intro hh; obtain ⟨h1, h2⟩ := hh; simp_all)]; rfl))
  · (first | apply SYields.mk | apply SYieldsF.mk | skip); refine s_enter Tryz.func118 rfl Tryz.ntmps118 rfl ?_
    repeat' (first | exact rfl | (apply kO; (first | exact ov_pure rfl | (apply kOBin; (first | exact aBin)) | (apply kOCall; (first | (apply kCallF; (first | exact (ov_call rfl (fun w hw => c_ssurfaceOk s _ w (riA hw))))) | (apply kCallB; (first | exact aBlt | exact aLenR)))) | (apply kOLoad; (first | exact aLdF | exact aLdR)) | exact ov_fieldAddr rfl | (apply kOIdx; (first | exact aIdx)) | exact aRest | exact aNew | exact (ov_field1 (ft := 31) rfl rfl rfl rfl))) | (refine kN ?_; (first | (refine kStore ?_; (first | refine s_store1 _ rfl rfl gpA rfl (by rfl) ?_ | refine s_storeS _ rfl rfl gpA rfl rfl (by rfl) ?_ | refine s_storeS _ rfl rfl gpA rfl (ones_img oiA) (by rfl) ?_)) | refine s_boxS rfl rfl (fun b hb => ?_) | refine s_allocS rfl (fun b hb => ?_) | refine s_box1 rfl rfl rfl (fun b hb => ?_) | refine s_alloc1 rfl rfl (fun b hb => ?_) | refine s_buildSlice0 rfl (fun b hb => ?_) | refine s_buildSlice rfl rfl rfl rfl rfl (fun b hb => ?_) | apply s_step)) | (refine kG ?_; (first | refine s_gyes rfl rfl rfl ?_ | refine s_gno rfl rfl rfl rfl rfl ?_ | ((first | refine s_split_d rfl rfl (fun h => ?_) (fun h => ?_) | refine s_split_n rfl rfl (fun h => ?_) (fun h => ?_)) <;> (try (first | contradiction | (exfalso; omega)))) | refine s_split_nb rfl rfl (fun h => ?_) (fun h => ?_) | refine s_split rfl rfl (fun h => ?_) (fun h => ?_))) | refine l_then ?_ | (refine kC ?_; (first | refine c_seq ?_ | refine c_regionN rfl ?_ | refine c_ret ?_ | (refine kCond ?_; (first | refine c_cond_t rfl ?_ | refine c_cond_f rfl ?_ | ((first | refine c_cond_d rfl (fun h => ?_) (fun h => ?_) | refine c_cond_n rfl (fun h => ?_) (fun h => ?_)) <;> (try (first | contradiction | (exfalso; omega)))) | refine c_cond_nb rfl (fun h => ?_) (fun h => ?_) | refine c_cond rfl (fun h => ?_) (fun h => ?_))) | refine c_block ?_ | refine c_skip ?_ | refine c_exit ?_ | refine c_regionQN rfl rfl (by decide +kernel) ?_)) | apply s_stepQ | (refine kQG ?_; (first | refine s_gyesQ rfl rfl rfl ?_ | refine s_gnoQ rfl rfl rfl rfl rfl ?_ | ((first | refine s_splitQ_d rfl rfl (fun h => ?_) (fun h => ?_) | refine s_splitQ_n rfl rfl (fun h => ?_) (fun h => ?_)) <;> (try (first | contradiction | (exfalso; omega)))) | refine s_splitQ_nb rfl rfl (fun h => ?_) (fun h => ?_) | refine s_splitQ rfl rfl (fun h => ?_) (fun h => ?_))) | refine lQ_then ?_ | refine lQ_ends ?_ | (refine kE ?_; (first | refine e_then_r ?_ | refine e_block_r ?_ | refine e_then_n ?_ | refine e_then_x ?_ | refine e_block_n ?_ | refine e_block_x ?_ | refine e_block_y rfl ?_)) | refine l_ends ?_)
    all_goals (refine kE ?_; refine s_leaveSF rfl rfl rfl fwA (fun w hw => ?_))
    all_goals refine ⟨ret_rectv ?_, hw.below⟩
    all_goals (unfold surfRect; rw [if_neg (fun hh => hok hh.1)]; rfl)
theorem DRect.eq {a b : DRect} (h1 : a.X = b.X) (h2 : a.Y = b.Y) (h3 : a.W = b.W) (h4 : a.H = b.H) : a = b := by cases a; cases b; simp_all
theorem c_eqRect (a c : DRect) (w : World) : SYields Tryz.prog 136 #[vRect a, vRect c] (.bool (decide (a = c))) w := by
  (first | apply SYields.mk | apply SYieldsF.mk | skip); refine s_enter Tryz.func136 rfl Tryz.ntmps136 rfl ?_
  repeat' (first | exact rfl | (apply kO; (first | exact ov_pure rfl | (apply kOBin; (first | exact aBin)) | (apply kOCall; (first | (apply kCallB; (first | exact aBlt | exact aLenR)))) | (apply kOLoad; (first | exact aLdF | exact aLdR)) | exact ov_fieldAddr rfl | (apply kOIdx; (first | exact aIdx)) | exact aRest | exact aNew | exact (ov_field1 (ft := 31) rfl rfl rfl rfl))) | (refine kN ?_; (first | (refine kStore ?_; (first | refine s_store1 _ rfl rfl gpA rfl (by rfl) ?_ | refine s_storeS _ rfl rfl gpA rfl rfl (by rfl) ?_ | refine s_storeS _ rfl rfl gpA rfl (ones_img oiA) (by rfl) ?_)) | refine s_boxS rfl rfl (fun b hb => ?_) | refine s_allocS rfl (fun b hb => ?_) | refine s_box1 rfl rfl rfl (fun b hb => ?_) | refine s_alloc1 rfl rfl (fun b hb => ?_) | refine s_buildSlice0 rfl (fun b hb => ?_) | refine s_buildSlice rfl rfl rfl rfl rfl (fun b hb => ?_) | apply s_step)) | (refine kG ?_; (first | refine s_gyes rfl rfl rfl ?_ | refine s_gno rfl rfl rfl rfl rfl ?_ | ((first | refine s_split_d rfl rfl (fun h => ?_) (fun h => ?_) | refine s_split_n rfl rfl (fun h => ?_) (fun h => ?_)) <;> (try (first | contradiction | (exfalso; omega)))) | refine s_split_nb rfl rfl (fun h => ?_) (fun h => ?_) | refine s_split rfl rfl (fun h => ?_) (fun h => ?_))) | refine l_then ?_ | (refine kC ?_; (first | refine c_seq ?_ | refine c_regionN rfl ?_ | refine c_ret ?_ | (refine kCond ?_; (first | refine c_cond_t rfl ?_ | refine c_cond_f rfl ?_ | ((first | refine c_cond_d rfl (fun h => ?_) (fun h => ?_) | refine c_cond_n rfl (fun h => ?_) (fun h => ?_)) <;> (try (first | contradiction | (exfalso; omega)))) | refine c_cond_nb rfl (fun h => ?_) (fun h => ?_) | refine c_cond rfl (fun h => ?_) (fun h => ?_))) | refine c_block ?_ | refine c_skip ?_ | refine c_exit ?_ | refine c_regionQN rfl rfl (by decide +kernel) ?_)) | apply s_stepQ | (refine kQG ?_; (first | refine s_gyesQ rfl rfl rfl ?_ | refine s_gnoQ rfl rfl rfl rfl rfl ?_ | ((first | refine s_splitQ_d rfl rfl (fun h => ?_) (fun h => ?_) | refine s_splitQ_n rfl rfl (fun h => ?_) (fun h => ?_)) <;> (try (first | contradiction | (exfalso; omega)))) | refine s_splitQ_nb rfl rfl (fun h => ?_) (fun h => ?_) | refine s_splitQ rfl rfl (fun h => ?_) (fun h => ?_))) | refine lQ_then ?_ | refine lQ_ends ?_ | (refine kE ?_; (first | refine e_then_r ?_ | refine e_block_r ?_ | refine e_then_n ?_ | refine e_then_x ?_ | refine e_block_n ?_ | refine e_block_x ?_ | refine e_block_y rfl ?_)) | refine l_ends ?_)
  all_goals refine s_leave1 rfl rfl (fun w hw => ⟨?_, hw.below⟩)
  all_goals first | exact ret_false (fun e => by subst e; contradiction) | exact ret_true (DRect.eq (by omega) (by omega) (by omega) (by omega))
end Go.Proofs.YtakijgpoaeggnaaGreat
/-
  Contracts: pixels, images, modes that are drawn.
-/
set_option linter.unusedVariables false
namespace Go.Proofs.YtakijgpoaeggnaaGreat
open Go Sx
attribute [local irreducible] Exit.then Exit.inBlock bodyPost
theorem c_snewImage (p q r : Int) (W : World) : SYieldsF Tryz.prog 117 #[.int .i64 p, .int .i64 q, .int .i64 r] (fun u H => OImg u (newImage p q r) H) W := by
  by_cases hok : (1 ≤ p ∧ p ≤ 16) ∧ (1 ≤ q ∧ q ≤ 16) ∧ pixP r
  · have hwh := side_mul (w := p) (h := q) ⟨hok.1.1, hok.1.2, hok.2.1.1, hok.2.1.2⟩
    have hp2 := hok.2.2
    unfold pixP at hp2
    (first | apply SYields.mk | apply SYieldsF.mk | skip); refine s_enter Tryz.func117 rfl Tryz.ntmps117 rfl ?_
    repeat' (first | exact rfl | (apply kO; (first | exact ov_pure rfl | (apply kOBin; (first | exact aBin)) | (apply kOCall; (first | (apply kCallF; (first | exact (ov_call rfl (fun w hw => c_l01In _ _ _ w)) | exact (ov_call rfl (fun w hw => c_l04Pixel _ w)))) | (apply kCallB; (first | exact aBlt | exact aLenR)))) | (apply kOLoad; (first | exact aLdF | exact aLdR)) | exact ov_fieldAddr rfl | (apply kOIdx; (first | exact aIdx)) | exact aRest | exact aNew | exact (ov_field1 (ft := 31) rfl rfl rfl rfl))) | (refine kN ?_; (first | (refine kCall ?_; (first | (refine kWApp ?_; (refine s_appendI _ _ (ys := [_]) rfl rfl (by assumption) gpA gpA rfl rfl (by rw [List.length_replicate]; omega) (by decide) rfl (fun v' H' hv' => ?_); have f1 := hv'.form; obtain ⟨ua, uc, rfl⟩ := f1)) | apply s_step)) | (refine kStore ?_; (first | refine s_store1 _ rfl rfl gpA rfl (by rfl) ?_ | refine s_storeS _ rfl rfl gpA rfl rfl (by rfl) ?_ | refine s_storeS _ rfl rfl gpA rfl (ones_img oiA) (by rfl) ?_)) | refine s_boxS rfl rfl (fun b hb => ?_) | refine s_allocS rfl (fun b hb => ?_) | refine s_box1 rfl rfl rfl (fun b hb => ?_) | refine s_alloc1 rfl rfl (fun b hb => ?_) | refine s_buildSlice0 rfl (fun b hb => ?_) | refine s_buildSlice rfl rfl rfl rfl rfl (fun b hb => ?_) | apply s_step)) | (refine kG ?_; (first | refine s_gyes rfl rfl rfl ?_ | refine s_gno rfl rfl rfl rfl rfl ?_ | ((first | refine s_split_d rfl rfl (fun h => ?_) (fun h => ?_) | refine s_split_n rfl rfl (fun h => ?_) (fun h => ?_)) <;> (try (first | contradiction | (exfalso; omega)))) | refine s_split_nb rfl rfl (fun h => ?_) (fun h => ?_) | refine s_split rfl rfl (fun h => ?_) (fun h => ?_))) | refine l_then ?_ | (refine kC ?_; (first | (refine c_loopV (ι := Nat × Value × SPiece) (fun j => (j.1 : Int) ≤ p * q ∧ OInts 3 j.2.1 (List.replicate j.1 r) j.2.2) (fun j => [(8, .int .i64 (j.1 : Int))]) (fun j => [[(_, srow [.int .i64 p, .int .i64 q, j.2.1] 49)], j.2.2, _]) (fun j => (p * q).toNat - j.1) (0, _, []) ⟨by dsimp only; omega, OInts.nil _⟩ rfl (fun _ => rfl) ⟨rfl, trivial⟩ (fun w hw => hw.nil1) (fun j hj => ?_); obtain ⟨hj1, hj2⟩ := hj) | refine c_seq ?_ | refine c_regionN rfl ?_ | refine c_ret ?_ | (refine kCond ?_; (first | refine c_cond_t rfl ?_ | refine c_cond_f rfl ?_ | ((first | refine c_cond_d rfl (fun h => ?_) (fun h => ?_) | refine c_cond_n rfl (fun h => ?_) (fun h => ?_)) <;> (try (first | contradiction | (exfalso; omega)))) | refine c_cond_nb rfl (fun h => ?_) (fun h => ?_) | refine c_cond rfl (fun h => ?_) (fun h => ?_))) | refine c_block ?_ | refine c_skip ?_ | refine c_exit ?_ | refine c_regionQN rfl rfl (by decide +kernel) ?_)) | apply s_stepQ | (refine kQG ?_; (first | refine s_gyesQ rfl rfl rfl ?_ | refine s_gnoQ rfl rfl rfl rfl rfl ?_ | ((first | refine s_splitQ_d rfl rfl (fun h => ?_) (fun h => ?_) | refine s_splitQ_n rfl rfl (fun h => ?_) (fun h => ?_)) <;> (try (first | contradiction | (exfalso; omega)))) | refine s_splitQ_nb rfl rfl (fun h => ?_) (fun h => ?_) | refine s_splitQ rfl rfl (fun h => ?_) (fun h => ?_))) | refine lQ_then ?_ | refine lQ_ends ?_ | (refine kE ?_; (first | refine e_then_r ?_ | refine e_block_r ?_ | refine e_then_n ?_ | refine e_then_x ?_ | refine e_block_n ?_ | refine e_block_x ?_ | refine e_block_y rfl ?_)) | refine l_ends ?_)
    · refine e_round (j.1 + 1, _, H') ⟨by dsimp only; omega, by dsimp only; rw [List.replicate_succ']; exact hv'⟩ ⟨rfl, (by repeat' first | exact trivial | refine ⟨rfl, ?_⟩)⟩ (fun w hw => hw.sub (by repeat' first | exact List.nil_sublist _ | exact List.Sublist.slnil | refine List.Sublist.cons_cons _ ?_ | refine List.Sublist.cons _ ?_)) (by dsimp only; omega)
    · rw [show j.1 = (p * q).toNat by omega] at hj2
      refine s_leaveSF rfl rfl rfl fwA (fun w hw => ⟨_, _, rfl, ?_, hw.toFresh (H := j.2.2) gpA⟩)
      unfold newImage
      rw [if_pos hok]
      exact ⟨_, rfl, hj2⟩
  · have hok2 := hok
    unfold pixP at hok2
    (first | apply SYields.mk | apply SYieldsF.mk | skip); refine s_enter Tryz.func117 rfl Tryz.ntmps117 rfl ?_
    repeat' (first | exact rfl | (apply kO; (first | exact ov_pure rfl | (apply kOBin; (first | exact aBin)) | (apply kOCall; (first | (apply kCallF; (first | exact (ov_call rfl (fun w hw => c_l01In _ _ _ w)) | exact (ov_call rfl (fun w hw => c_l04Pixel _ w)))) | (apply kCallB; (first | exact aBlt | exact aLenR)))) | (apply kOLoad; (first | exact aLdF | exact aLdR)) | exact ov_fieldAddr rfl | (apply kOIdx; (first | exact aIdx)) | exact aRest | exact aNew | exact (ov_field1 (ft := 31) rfl rfl rfl rfl))) | (refine kN ?_; (first | (refine kStore ?_; (first | refine s_store1 _ rfl rfl gpA rfl (by rfl) ?_ | refine s_storeS _ rfl rfl gpA rfl rfl (by rfl) ?_ | refine s_storeS _ rfl rfl gpA rfl (ones_img oiA) (by rfl) ?_)) | refine s_boxS rfl rfl (fun b hb => ?_) | refine s_allocS rfl (fun b hb => ?_) | refine s_box1 rfl rfl rfl (fun b hb => ?_) | refine s_alloc1 rfl rfl (fun b hb => ?_) | refine s_buildSlice0 rfl (fun b hb => ?_) | refine s_buildSlice rfl rfl rfl rfl rfl (fun b hb => ?_) | apply s_step)) | (refine kG ?_; (first | refine s_gyes rfl rfl rfl ?_ | refine s_gno rfl rfl rfl rfl rfl ?_ | ((first | refine s_split_d rfl rfl (fun h => ?_) (fun h => ?_) | refine s_split_n rfl rfl (fun h => ?_) (fun h => ?_)) <;> (try (first | contradiction | (exfalso; omega)))) | refine s_split_nb rfl rfl (fun h => ?_) (fun h => ?_) | refine s_split rfl rfl (fun h => ?_) (fun h => ?_))) | refine l_then ?_ | (refine kC ?_; (first | refine c_seq ?_ | refine c_regionN rfl ?_ | refine c_ret ?_ | (refine kCond ?_; (first | refine c_cond_t rfl ?_ | refine c_cond_f rfl ?_ | ((first | refine c_cond_d rfl (fun h => ?_) (fun h => ?_) | refine c_cond_n rfl (fun h => ?_) (fun h => ?_)) <;> (try (first | contradiction | (exfalso; omega)))) | refine c_cond_nb rfl (fun h => ?_) (fun h => ?_) | refine c_cond rfl (fun h => ?_) (fun h => ?_))) | refine c_block ?_ | refine c_skip ?_ | refine c_exit ?_ | refine c_regionQN rfl rfl (by decide +kernel) ?_)) | apply s_stepQ | (refine kQG ?_; (first | refine s_gyesQ rfl rfl rfl ?_ | refine s_gnoQ rfl rfl rfl rfl rfl ?_ | ((first | refine s_splitQ_d rfl rfl (fun h => ?_) (fun h => ?_) | refine s_splitQ_n rfl rfl (fun h => ?_) (fun h => ?_)) <;> (try (first | contradiction | (exfalso; omega)))) | refine s_splitQ_nb rfl rfl (fun h => ?_) (fun h => ?_) | refine s_splitQ rfl rfl (fun h => ?_) (fun h => ?_))) | refine lQ_then ?_ | refine lQ_ends ?_ | (refine kE ?_; (first | refine e_then_r ?_ | refine e_block_r ?_ | refine e_then_n ?_ | refine e_then_x ?_ | refine e_block_n ?_ | refine e_block_x ?_ | refine e_block_y rfl ?_)) | refine l_ends ?_)
    all_goals (refine kE ?_; refine s_leaveSF rfl rfl rfl fwA (fun w hw => ?_))
    all_goals (unfold newImage; rw [if_neg hok]; exact ⟨_, [], rfl, ⟨_, rfl, OInts.nil _⟩, hw.toFresh0⟩)
def someImg (m : Int) (u : Value) (H : SPiece) : Prop := ∃ i : DImg, i.ok ∧ i.W ≤ m ∧ i.H ≤ m ∧ OImg u i H
end Go.Proofs.YtakijgpoaeggnaaGreat
/-
  A result that is an image and a number.
-/
set_option linter.unusedVariables false
namespace Go.Proofs.YtakijgpoaeggnaaGreat
open Go Sx
def OImgN (u : Value) (i : DImg) (n : Int) (H : SPiece) : Prop := ∃ d, u = .tuple #[vImg i d, .int .i64 n] ∧ OInts 3 d i.data H
theorem _root_.Sx.SRes.cellG {P : Program} {E : SEnv} {L : SHeap} {t : Tmp} {T : TypeId} {b : Nat} {l : List Value} {td : TypeDesc} {z : Value} {k by_ : Nat} {r : List ResultVar} {vs : List Value} [hu : SUnd P T td] [hi : SInf P T z k by_]
    (ht : slook E t = some (.pointer (some ⟨b, 0, none⟩))) (hd : sisRow td = true) (hf : FindW L b k l) (h : SRes P E L r vs) : SRes P E L (.cell t T :: r) (.agg l.toArray :: vs) := by
  obtain ⟨⟨U, h1⟩, h2⟩ := hf
  exact .cell ht hd h1 h2 h
end Go.Proofs.YtakijgpoaeggnaaGreat
/-
  Rules for an edit of a scene by the reference: rows of structs that share what they hold.
-/
set_option linter.unusedVariables false
namespace Go.Proofs.YtakijgpoaeggnaaGreat
open Go Sx
attribute [local irreducible] Exit.then Exit.inBlock bodyPost tcells OInts OElems
def OSceneB (u : Value) (s : DScene) (q : Bool) (H : SPiece) : Prop := ∃ v, u = .tuple #[vScene s v, .bool q] ∧ OElems eSurf 126 v s.ss H
theorem ovec_split {k : Nat} {T : TypeId} {v : Value} {n : Nat} {xs : List Value} {H : SPiece} (h : OVec k T v n xs H) :
    (v = .slice none 0 0 ∧ n = 0 ∧ xs = [] ∧ H = []) ∨ ∃ b cap r, v = .slice (some ⟨b, 0, none⟩) n cap ∧ H = [(b, srow (xs ++ r) T)] ∧ xs.length = n * k ∧ (xs ++ r).length = cap * k ∧ n ≤ cap ∧ cap ≤ maxLen := by
  cases h with
  | nil => exact .inl ⟨rfl, rfl, rfl, rfl⟩
  | blk b n cap xs r h1 h2 h3 h4 => exact .inr ⟨b, cap, r, rfl, rfl, h1, h2, h3, h4⟩
section
variable {P : Program} {n : Nat} {lo : SMut} {s : World} {ops : Array Oper} {Q : Exit → Act → World → Prop} {E : SEnv} {L : SHeap} {d : Nat} {ty : TypeId} {pos : String} {after : Array Edge} {rest : List Oper}
end
end Go.Proofs.YtakijgpoaeggnaaGreat
/-
  Contract: an edit in place, by the program: all kinds.
-/
set_option linter.unusedVariables false
namespace Go.Proofs.YtakijgpoaeggnaaGreat
open Go Sx
attribute [local irreducible] Exit.then Exit.inBlock bodyPost tcells OInts OElems
end Go.Proofs.YtakijgpoaeggnaaGreat
/-
  Contract: an edit of a scene, by the program.
-/
set_option linter.unusedVariables false
namespace Go.Proofs.YtakijgpoaeggnaaGreat
open Go Sx
attribute [local irreducible] Exit.then Exit.inBlock bodyPost tcells OInts OElems
end Go.Proofs.YtakijgpoaeggnaaGreat
/-
  Contracts: several edits, by the program.
-/
set_option linter.unusedVariables false
namespace Sx
end Sx
namespace Go.Proofs.YtakijgpoaeggnaaGreat
open Go Sx
attribute [local irreducible] Exit.then Exit.inBlock bodyPost tcells OInts OElems
def OSceneN (u : Value) (s : DScene) (q : Int) (H : SPiece) : Prop := ∃ v, u = .tuple #[vScene s v, .int .i64 q] ∧ OElems eSurf 126 v s.ss H
end Go.Proofs.YtakijgpoaeggnaaGreat
/-
  What the laws on edits need: lists of edits as arguments; how long a scene is after edits.
-/
set_option linter.unusedVariables false
namespace Go.Proofs.YtakijgpoaeggnaaGreat
open Go Sx Go.ChangeShapes Go.WideShapes Go.ChangeAt Go.RowKit
theorem scene_len2 {s : DScene} (h : s.ok) : surfsLen s.ss ≤ 1542 := by
  have h6 := h.2.2.2.1
  unfold surfsLen
  have : ∀ n, n ≤ s.ss.length → sumTo (fun i => (s.ss.getD i default).buf.data.length) n ≤ n * 256 := by
    intro n
    induction n with
    | zero => intro _; exact Nat.le_refl _
    | succ n ih =>
      intro hn
      have h1 := ih (by omega)
      have h2 := (getD_ok h (show n < s.ss.length by omega)).2.2.2.2.2.2.len
      show sumTo _ n + (s.ss.getD n default).buf.data.length ≤ _
      omega
  have := this _ (Nat.le_refl _)
  omega
end Go.Proofs.YtakijgpoaeggnaaGreat
/-
  Contracts: the laws' own helpers on regions.
-/
set_option linter.unusedVariables false
namespace Go.Proofs.YtakijgpoaeggnaaGreat
open Go Sx
attribute [local irreducible] Exit.then Exit.inBlock bodyPost
theorem c_eqRectS (u v : Value) (k l : List DRect) (W : World) (hu : RRects W u k) (hv : RRects W v l) : SYields Tryz.prog 69 #[u, v] (.bool (decide (k = l))) W := by
  have hkl := hu.len
  have hll := hv.len
  (first | apply SYields.mk | apply SYieldsF.mk | skip); refine s_enter Tryz.func69 rfl Tryz.ntmps69 rfl ?_
  repeat' (first | exact rfl | (apply kO; (first | exact ov_pure rfl | (apply kOBin; (first | exact aBin)) | (apply kOCall; (first | (apply kCallF; (first | exact (ov_call rfl (fun w hw => c_eqRect _ _ w)))) | (apply kCallB; (first | exact aBlt | exact (ov_lenR (fun w hw => RRow.keep hu (hw.cells rfl)) rfl) | exact (ov_lenR (fun w hw => RRow.keep hv (hw.cells rfl)) rfl) | exact aLenR)))) | (apply kOLoad; (first | exact (ov_ldRZ (fun w hw => RRow.keep hu (hw.cells rfl)) rfl rfl (by omega) rfl) | exact (ov_ldRZ (fun w hw => RRow.keep hv (hw.cells rfl)) rfl rfl (by omega) rfl) | exact aLdF | exact aLdR)) | exact ov_fieldAddr rfl | (apply kOIdx; (first | exact (ov_idxR (fun w hw => RRow.keep hu (hw.cells rfl)) rfl rfl (by omega)) | exact (ov_idxR (fun w hw => RRow.keep hv (hw.cells rfl)) rfl rfl (by omega)) | exact aIdx)) | exact aRest | exact aNew | exact (ov_field1 (ft := 31) rfl rfl rfl rfl))) | (refine kN ?_; (first | (refine kStore ?_; (first | refine s_store1 _ rfl rfl gpA rfl (by rfl) ?_ | refine s_storeS _ rfl rfl gpA rfl rfl (by rfl) ?_ | refine s_storeS _ rfl rfl gpA rfl (ones_img oiA) (by rfl) ?_)) | refine s_boxS rfl rfl (fun b hb => ?_) | refine s_allocS rfl (fun b hb => ?_) | refine s_box1 rfl rfl rfl (fun b hb => ?_) | refine s_alloc1 rfl rfl (fun b hb => ?_) | refine s_buildSlice0 rfl (fun b hb => ?_) | refine s_buildSlice rfl rfl rfl rfl rfl (fun b hb => ?_) | apply s_step)) | (refine kG ?_; (first | refine s_gyes rfl rfl rfl ?_ | refine s_gno rfl rfl rfl rfl rfl ?_ | ((first | refine s_split_d rfl rfl (fun h => ?_) (fun h => ?_) | refine s_split_n rfl rfl (fun h => ?_) (fun h => ?_)) <;> (try (first | contradiction | (exfalso; omega)))) | refine s_split_nb rfl rfl (fun h => ?_) (fun h => ?_) | refine s_split rfl rfl (fun h => ?_) (fun h => ?_))) | refine l_then ?_ | (refine kC ?_; (first | (refine c_loopV (ι := Nat) (fun j => j ≤ k.length ∧ eqTo k l DRect.zero j) (fun j => [(5, .int .i64 (j : Int))]) (fun _ => []) (fun j => k.length - j) 0 ⟨by omega, eqTo_zero _ _ _⟩ rfl (fun _ => rfl) ⟨rfl, trivial⟩ (fun w hw => hw) (fun j hj => ?_)) | refine c_seq ?_ | refine c_regionN rfl ?_ | refine c_ret ?_ | (refine kCond ?_; (first | refine c_cond_t rfl ?_ | refine c_cond_f rfl ?_ | ((first | refine c_cond_d rfl (fun h => ?_) (fun h => ?_) | refine c_cond_n rfl (fun h => ?_) (fun h => ?_)) <;> (try (first | contradiction | (exfalso; omega)))) | refine c_cond_nb rfl (fun h => ?_) (fun h => ?_) | refine c_cond rfl (fun h => ?_) (fun h => ?_))) | refine c_block ?_ | refine c_skip ?_ | refine c_exit ?_ | refine c_regionQN rfl rfl (by decide +kernel) ?_)) | apply s_stepQ | (refine kQG ?_; (first | refine s_gyesQ rfl rfl rfl ?_ | refine s_gnoQ rfl rfl rfl rfl rfl ?_ | ((first | refine s_splitQ_d rfl rfl (fun h => ?_) (fun h => ?_) | refine s_splitQ_n rfl rfl (fun h => ?_) (fun h => ?_)) <;> (try (first | contradiction | (exfalso; omega)))) | refine s_splitQ_nb rfl rfl (fun h => ?_) (fun h => ?_) | refine s_splitQ rfl rfl (fun h => ?_) (fun h => ?_))) | refine lQ_then ?_ | refine lQ_ends ?_ | (refine kE ?_; (first | refine e_then_r ?_ | refine e_block_r ?_ | refine e_then_n ?_ | refine e_then_x ?_ | refine e_block_n ?_ | refine e_block_x ?_ | refine e_block_y rfl ?_)) | refine l_ends ?_)
  all_goals try simp only [Int.toNat_natCast] at *
  all_goals first
    | exact s_leave1 rfl rfl (fun w hw => ⟨ret_false (ne_of_len (by omega)), hw.below⟩)
    | exact s_leave1 rfl rfl (fun w hw => ⟨ret_false (fun e => by subst e; contradiction), hw.below⟩)
    | exact e_round (j + 1) ⟨by omega, eqTo_next hj.2 (by assumption)⟩ ⟨rfl, (by repeat' first | exact trivial | refine ⟨rfl, ?_⟩)⟩ (fun w hw => hw) (by omega)
    | exact s_leave1 rfl rfl (fun w hw => ⟨ret_true (list_eq_of_getD DRect.zero (by omega) (fun i hi => hj.2 i (by omega))), hw.below⟩)
theorem c_eqRegion (u v : Value) (k l : List DRect) (W : World) (hu : RRects W u k) (hv : RRects W v l) : SYields Tryz.prog 24 #[vReg u, vReg v] (.bool (decide (k = l))) W := by
  (first | apply SYields.mk | apply SYieldsF.mk | skip); refine s_enter Tryz.func24 rfl Tryz.ntmps24 rfl ?_
  repeat' (first | exact rfl | (apply kO; (first | exact ov_pure rfl | (apply kOBin; (first | exact aBin)) | (apply kOCall; (first | (apply kCallF; (first | exact (ov_call rfl (fun w hw => c_eqRectS _ _ _ _ w (RVs.keep hu (hw.cells rfl)) (RVs.keep hv (hw.cells rfl)))))) | (apply kCallB; (first | exact aBlt | exact aLenR)))) | (apply kOLoad; (first | exact aLdF | exact aLdR)) | exact ov_fieldAddr rfl | (apply kOIdx; (first | exact aIdx)) | exact aRest | exact aNew | exact (ov_field1 (ft := 31) rfl rfl rfl rfl))) | (refine kN ?_; (first | (refine kStore ?_; (first | refine s_store1 _ rfl rfl gpA rfl (by rfl) ?_ | refine s_storeS _ rfl rfl gpA rfl rfl (by rfl) ?_ | refine s_storeS _ rfl rfl gpA rfl (ones_img oiA) (by rfl) ?_)) | refine s_boxS rfl rfl (fun b hb => ?_) | refine s_allocS rfl (fun b hb => ?_) | refine s_box1 rfl rfl rfl (fun b hb => ?_) | refine s_alloc1 rfl rfl (fun b hb => ?_) | refine s_buildSlice0 rfl (fun b hb => ?_) | refine s_buildSlice rfl rfl rfl rfl rfl (fun b hb => ?_) | apply s_step)) | (refine kG ?_; (first | refine s_gyes rfl rfl rfl ?_ | refine s_gno rfl rfl rfl rfl rfl ?_ | ((first | refine s_split_d rfl rfl (fun h => ?_) (fun h => ?_) | refine s_split_n rfl rfl (fun h => ?_) (fun h => ?_)) <;> (try (first | contradiction | (exfalso; omega)))) | refine s_split_nb rfl rfl (fun h => ?_) (fun h => ?_) | refine s_split rfl rfl (fun h => ?_) (fun h => ?_))) | refine l_then ?_ | (refine kC ?_; (first | refine c_seq ?_ | refine c_regionN rfl ?_ | refine c_ret ?_ | (refine kCond ?_; (first | refine c_cond_t rfl ?_ | refine c_cond_f rfl ?_ | ((first | refine c_cond_d rfl (fun h => ?_) (fun h => ?_) | refine c_cond_n rfl (fun h => ?_) (fun h => ?_)) <;> (try (first | contradiction | (exfalso; omega)))) | refine c_cond_nb rfl (fun h => ?_) (fun h => ?_) | refine c_cond rfl (fun h => ?_) (fun h => ?_))) | refine c_block ?_ | refine c_skip ?_ | refine c_exit ?_ | refine c_regionQN rfl rfl (by decide +kernel) ?_)) | apply s_stepQ | (refine kQG ?_; (first | refine s_gyesQ rfl rfl rfl ?_ | refine s_gnoQ rfl rfl rfl rfl rfl ?_ | ((first | refine s_splitQ_d rfl rfl (fun h => ?_) (fun h => ?_) | refine s_splitQ_n rfl rfl (fun h => ?_) (fun h => ?_)) <;> (try (first | contradiction | (exfalso; omega)))) | refine s_splitQ_nb rfl rfl (fun h => ?_) (fun h => ?_) | refine s_splitQ rfl rfl (fun h => ?_) (fun h => ?_))) | refine lQ_then ?_ | refine lQ_ends ?_ | (refine kE ?_; (first | refine e_then_r ?_ | refine e_block_r ?_ | refine e_then_n ?_ | refine e_then_x ?_ | refine e_block_n ?_ | refine e_block_x ?_ | refine e_block_y rfl ?_)) | refine l_ends ?_)
  all_goals refine s_leave1 rfl rfl (fun w hw => ⟨?_, hw.below⟩)
  all_goals first | exact ret_false (fun e => by subst e; contradiction) | exact ret_true (by assumption)
theorem c_heldRectS (v : Value) (k : Int) (m : Nat) (W : World) (hv : RRects W v (iotaR k m)) (hk : 0 ≤ k ∧ k + 4 * m ≤ 4611686018427387904) : SYields Tryz.prog 79 #[v, .int .i64 k] (.int .i64 (k + 4 * m)) W := by
  have hl := hv.len
  rw [iotaR_length] at hl
  have hv' : RRow W v 4 m (fun i => [.int .i64 (k + 4 * (i : Int)), .int .i64 (k + 4 * (i : Int) + 1), .int .i64 (k + 4 * (i : Int) + 2), .int .i64 (k + 4 * (i : Int) + 3)]) := RRow.congr hv (iotaR_length k m).symm (fun i hi => by rw [iotaR_get k (by rw [iotaR_length] at hi; exact hi)])
  (first | apply SYields.mk | apply SYieldsF.mk | skip); refine s_enter Tryz.func79 rfl Tryz.ntmps79 rfl ?_
  repeat' (first | exact rfl | (apply kO; (first | exact ov_pure rfl | (apply kOBin; (first | exact aBin | exact (ov_add rfl rfl (by omega)))) | (apply kOCall; (first | (apply kCallB; (first | exact aBlt | exact (ov_lenR (fun w hw => RRow.keep hv' (hw.cells rfl)) rfl) | exact aLenR)))) | (apply kOLoad; (first | exact (ov_ldR (fun w hw => RRow.keep hv' (hw.cells rfl)) rfl rfl (by omega) rfl) | exact aLdF | exact aLdR)) | exact ov_fieldAddr rfl | (apply kOIdx; (first | exact (ov_idxR (fun w hw => RRow.keep hv' (hw.cells rfl)) rfl rfl (by omega)) | exact aIdx)) | exact aRest | exact aNew | exact (ov_field1 (ft := 31) rfl rfl rfl rfl))) | (refine kN ?_; (first | (refine kStore ?_; (first | refine s_store1 _ rfl rfl gpA rfl (by rfl) ?_ | refine s_storeS _ rfl rfl gpA rfl rfl (by rfl) ?_ | refine s_storeS _ rfl rfl gpA rfl (ones_img oiA) (by rfl) ?_)) | refine s_boxS rfl rfl (fun b hb => ?_) | refine s_allocS rfl (fun b hb => ?_) | refine s_box1 rfl rfl rfl (fun b hb => ?_) | refine s_alloc1 rfl rfl (fun b hb => ?_) | refine s_buildSlice0 rfl (fun b hb => ?_) | refine s_buildSlice rfl rfl rfl rfl rfl (fun b hb => ?_) | apply s_step)) | (refine kG ?_; (first | refine s_gyes rfl rfl rfl ?_ | refine s_gno rfl rfl rfl rfl rfl ?_ | ((first | refine s_split_d rfl rfl (fun h => ?_) (fun h => ?_) | refine s_split_n rfl rfl (fun h => ?_) (fun h => ?_)) <;> (try (first | contradiction | (exfalso; omega)))) | refine s_split_nb rfl rfl (fun h => ?_) (fun h => ?_) | refine s_split rfl rfl (fun h => ?_) (fun h => ?_))) | refine l_then ?_ | (refine kC ?_; (first | (refine c_loopV (ι := Nat) (fun j => j ≤ m) (fun j => [(1, .int .i64 (k + 4 * j)), (5, .int .i64 (j : Int))]) (fun _ => []) (fun j => m - j) 0 (by omega) rfl (fun _ => rfl) ⟨slook_to rfl (vint_to (by simp)), rfl, trivial⟩ (fun w hw => hw) (fun j hj => ?_)) | refine c_seq ?_ | refine c_regionN rfl ?_ | refine c_ret ?_ | (refine kCond ?_; (first | refine c_cond_t rfl ?_ | refine c_cond_f rfl ?_ | ((first | refine c_cond_d rfl (fun h => ?_) (fun h => ?_) | refine c_cond_n rfl (fun h => ?_) (fun h => ?_)) <;> (try (first | contradiction | (exfalso; omega)))) | refine c_cond_nb rfl (fun h => ?_) (fun h => ?_) | refine c_cond rfl (fun h => ?_) (fun h => ?_))) | refine c_block ?_ | refine c_skip ?_ | refine c_exit ?_ | refine c_regionQN rfl rfl (by decide +kernel) ?_)) | apply s_stepQ | (refine kQG ?_; (first | refine s_gyesQ rfl rfl rfl ?_ | refine s_gnoQ rfl rfl rfl rfl rfl ?_ | ((first | refine s_splitQ_d rfl rfl (fun h => ?_) (fun h => ?_) | refine s_splitQ_n rfl rfl (fun h => ?_) (fun h => ?_)) <;> (try (first | contradiction | (exfalso; omega)))) | refine s_splitQ_nb rfl rfl (fun h => ?_) (fun h => ?_) | refine s_splitQ rfl rfl (fun h => ?_) (fun h => ?_))) | refine lQ_then ?_ | refine lQ_ends ?_ | (refine kE ?_; (first | refine e_then_r ?_ | refine e_block_r ?_ | refine e_then_n ?_ | refine e_then_x ?_ | refine e_block_n ?_ | refine e_block_x ?_ | refine e_block_y rfl ?_)) | refine l_ends ?_)
  all_goals first
    | exact e_round (j + 1) (by omega) ⟨slook_to rfl (vint_to (by push_cast; omega)), slook_to rfl (vint_to (by push_cast; rfl)), (by repeat' first | exact trivial | refine ⟨rfl, ?_⟩)⟩ (fun w hw => hw) (by omega)
    | exact s_leave1 rfl rfl (fun w hw => ⟨ret_int (by rw [show j = m by omega]), hw.below⟩)
theorem set4 {P R : List Value} {a c e f a' c' e' f' : Value} {p : Nat} (hp : p = P.length) : ((((P ++ (a :: c :: e :: f :: R)).set p a').set (p + 1) c').set (p + 2) e').set (p + 3) f' = P ++ (a' :: c' :: e' :: f' :: R) := by
  subst hp
  rw [List.set_append_right _ _ (Nat.le_refl _), List.set_append_right _ _ (by omega), List.set_append_right _ _ (by omega), List.set_append_right _ _ (by omega)]
  rw [Nat.sub_self, show P.length + 1 - P.length = 1 by omega, show P.length + 2 - P.length = 2 by omega, show P.length + 3 - P.length = 3 by omega]
  rfl
def markRTo (l : List DRect) (k : Int) (j : Nat) : List DRect := iotaR k j ++ l.drop j
theorem markRTo_zero (l : List DRect) (k : Int) : markRTo l k 0 = l := by simp [markRTo, iotaR]
theorem markRTo_all (l : List DRect) (k : Int) : markRTo l k l.length = iotaR k l.length := by simp [markRTo]
theorem markRTo_length (l : List DRect) (k : Int) {j : Nat} (h : j ≤ l.length) : (markRTo l k j).length = l.length := by simp [markRTo, iotaR_length]; omega
theorem rcells_length (l : List DRect) : (l.flatMap cRect).length = l.length * 4 := flatMap_length (c := cRect) (k := 4) (fun _ => rfl) l
theorem markRTo_set (l : List DRect) (k : Int) (r : List Value) {j : Nat} (h : j < l.length) :
    ((((((markRTo l k j).flatMap cRect ++ r).set (j * 4) (.int .i64 (k + 4 * j))).set (j * 4 + 1) (.int .i64 (k + 4 * j + 1))).set (j * 4 + 2) (.int .i64 (k + 4 * j + 1 + 1))).set (j * 4 + 3) (.int .i64 (k + 4 * j + 1 + 1 + 1))) = (markRTo l k (j + 1)).flatMap cRect ++ r := by
  rw [show k + 4 * (j : Int) + 1 + 1 + 1 = k + 4 * j + 3 by omega, show k + 4 * (j : Int) + 1 + 1 = k + 4 * j + 2 by omega]
  unfold markRTo
  rw [List.drop_eq_getElem_cons h, iotaR_succ, List.flatMap_append, List.flatMap_append, List.flatMap_append, List.flatMap_cons, List.append_assoc, List.append_assoc]
  show (((((iotaR k j).flatMap cRect ++ (_ :: _ :: _ :: _ :: _)).set _ _).set _ _).set _ _).set _ _ = _
  rw [set4 (by rw [rcells_length, iotaR_length])]
  simp
set_option maxHeartbeats 2000000 in
theorem c_markRectS (v : Value) (l : List DRect) (H : SPiece) (k : Int) (w : World) (hv : ORects v l H) (hH : Holds w H) (hn : H.keys.Nodup) (hk : 0 ≤ k ∧ k + 4 * l.length ≤ 4611686018427387904) :
    SYieldsG Tryz.prog 78 #[v, .int .i64 k] H (fun u H' F => u = .int .i64 (k + 4 * l.length) ∧ ORects v (iotaR k l.length) H' ∧ F = []) w := by
  have hlen := hv.len
  unfold maxLen at hlen
  have hil := iotaR_length k l.length
  have hrl := rcells_length
  have hml := fun j (h : j ≤ l.length) => markRTo_length l k h
  unfold ORects OVs at hv
  generalize hx : l.flatMap cRect = xs at hv
  generalize hnn : l.length = nn at hv
  cases hv with
  | nil =>
    have hl0 : l = [] := List.eq_nil_of_length_eq_zero hnn
    subst hl0
    refine SYieldsG.mk (s_enterM Tryz.func78 rfl Tryz.ntmps78 rfl hH hn ?_)
    repeat' (first | exact rfl | (apply kO; (first | exact ov_pure rfl | (apply kOBin; (first | exact aBin)) | (apply kOCall; (first | (apply kCallB; (first | exact aBlt | exact aLenR)))) | (apply kOLoad; (first | exact aLdF | exact aLdR)) | exact ov_fieldAddr rfl | (apply kOIdx; (first | exact aIdx)) | exact aRest | exact aNew | exact (ov_field1 (ft := 31) rfl rfl rfl rfl))) | (refine kN ?_; (first | (refine kStore ?_; (first | refine s_store1 _ rfl rfl gpA rfl (by rfl) ?_ | refine s_storeS _ rfl rfl gpA rfl rfl (by rfl) ?_ | refine s_storeS _ rfl rfl gpA rfl (ones_img oiA) (by rfl) ?_)) | refine s_boxS rfl rfl (fun b hb => ?_) | refine s_allocS rfl (fun b hb => ?_) | refine s_box1 rfl rfl rfl (fun b hb => ?_) | refine s_alloc1 rfl rfl (fun b hb => ?_) | refine s_buildSlice0 rfl (fun b hb => ?_) | refine s_buildSlice rfl rfl rfl rfl rfl (fun b hb => ?_) | apply s_step)) | (refine kG ?_; (first | refine s_gyes rfl rfl rfl ?_ | refine s_gno rfl rfl rfl rfl rfl ?_ | ((first | refine s_split_d rfl rfl (fun h => ?_) (fun h => ?_) | refine s_split_n rfl rfl (fun h => ?_) (fun h => ?_)) <;> (try (first | contradiction | (exfalso; omega)))) | refine s_split_nb rfl rfl (fun h => ?_) (fun h => ?_) | refine s_split rfl rfl (fun h => ?_) (fun h => ?_))) | refine l_then ?_ | (refine kC ?_; (first | (refine c_loopV (ι := Unit) (fun _ => True) (fun _ => [(1, .int .i64 k), (5, .int .i64 0)]) (fun _ => [[]]) (fun _ => 0) () trivial rfl (fun _ => rfl) (by repeat' first | exact trivial | refine ⟨rfl, ?_⟩) (fun w hw => by simpa using hw) (fun j hj => ?_)) | refine c_seq ?_ | refine c_regionN rfl ?_ | refine c_ret ?_ | (refine kCond ?_; (first | refine c_cond_t rfl ?_ | refine c_cond_f rfl ?_ | ((first | refine c_cond_d rfl (fun h => ?_) (fun h => ?_) | refine c_cond_n rfl (fun h => ?_) (fun h => ?_)) <;> (try (first | contradiction | (exfalso; omega)))) | refine c_cond_nb rfl (fun h => ?_) (fun h => ?_) | refine c_cond rfl (fun h => ?_) (fun h => ?_))) | refine c_block ?_ | refine c_skip ?_ | refine c_exit ?_ | refine c_regionQN rfl rfl (by decide +kernel) ?_)) | apply s_stepQ | (refine kQG ?_; (first | refine s_gyesQ rfl rfl rfl ?_ | refine s_gnoQ rfl rfl rfl rfl rfl ?_ | ((first | refine s_splitQ_d rfl rfl (fun h => ?_) (fun h => ?_) | refine s_splitQ_n rfl rfl (fun h => ?_) (fun h => ?_)) <;> (try (first | contradiction | (exfalso; omega)))) | refine s_splitQ_nb rfl rfl (fun h => ?_) (fun h => ?_) | refine s_splitQ rfl rfl (fun h => ?_) (fun h => ?_))) | refine lQ_then ?_ | refine lQ_ends ?_ | (refine kE ?_; (first | refine e_then_r ?_ | refine e_block_r ?_ | refine e_then_n ?_ | refine e_then_x ?_ | refine e_block_n ?_ | refine e_block_x ?_ | refine e_block_y rfl ?_)) | refine l_ends ?_)
    · exact s_leave1 rfl rfl (fun w hw => ⟨_, _, _, rfl, ⟨by simp, OVs.nil, rfl⟩, SSt.lone hw⟩)
  | blk b n cap xs r h1 h2 h3 h4 =>
    subst hx
    subst hnn
    refine SYieldsG.mk (s_enterM Tryz.func78 rfl Tryz.ntmps78 rfl hH hn ?_)
    repeat' (first | exact rfl | (apply kO; (first | exact ov_pure rfl | (apply kOBin; (first | exact aBin | exact (ov_add rfl rfl (by omega)))) | (apply kOCall; (first | (apply kCallB; (first | exact aBlt | exact aLenR)))) | (apply kOLoad; (first | exact aLdF | exact aLdR)) | exact ov_fieldAddr rfl | (apply kOIdx; (first | exact (ov_indexAddr rfl rfl (by omega)) | exact aIdx)) | exact aRest | exact aNew | exact (ov_field1 (ft := 31) rfl rfl rfl rfl))) | (refine kN ?_; (first | (refine kStore ?_; (first | (refine s_setR 0 rfl rfl rfl rfl (by (try simp only [List.length_set]); rw [List.length_append, hrl, hml j hj]; omega) ?_) | refine s_store1 _ rfl rfl gpA rfl (by rfl) ?_ | refine s_storeS _ rfl rfl gpA rfl rfl (by rfl) ?_ | refine s_storeS _ rfl rfl gpA rfl (ones_img oiA) (by rfl) ?_)) | refine s_boxS rfl rfl (fun b hb => ?_) | refine s_allocS rfl (fun b hb => ?_) | refine s_box1 rfl rfl rfl (fun b hb => ?_) | refine s_alloc1 rfl rfl (fun b hb => ?_) | refine s_buildSlice0 rfl (fun b hb => ?_) | refine s_buildSlice rfl rfl rfl rfl rfl (fun b hb => ?_) | apply s_step)) | (refine kG ?_; (first | refine s_gyes rfl rfl rfl ?_ | refine s_gno rfl rfl rfl rfl rfl ?_ | ((first | refine s_split_d rfl rfl (fun h => ?_) (fun h => ?_) | refine s_split_n rfl rfl (fun h => ?_) (fun h => ?_)) <;> (try (first | contradiction | (exfalso; omega)))) | refine s_split_nb rfl rfl (fun h => ?_) (fun h => ?_) | refine s_split rfl rfl (fun h => ?_) (fun h => ?_))) | refine l_then ?_ | (refine kC ?_; (first | (refine c_loopV (ι := Nat) (fun j => j ≤ l.length) (fun j => [(1, .int .i64 (k + 4 * j)), (5, .int .i64 (j : Int))]) (fun j => [[(b, srow ((markRTo l k j).flatMap cRect ++ r) 100)]]) (fun j => l.length - j) 0 (by omega) rfl (fun _ => rfl) ⟨slook_to rfl (vint_to (by simp)), rfl, trivial⟩ (fun w hw => by rw [markRTo_zero]; simpa using hw) (fun j hj => ?_)) | refine c_seq ?_ | refine c_regionN rfl ?_ | refine c_ret ?_ | (refine kCond ?_; (first | refine c_cond_t rfl ?_ | refine c_cond_f rfl ?_ | ((first | refine c_cond_d rfl (fun h => ?_) (fun h => ?_) | refine c_cond_n rfl (fun h => ?_) (fun h => ?_)) <;> (try (first | contradiction | (exfalso; omega)))) | refine c_cond_nb rfl (fun h => ?_) (fun h => ?_) | refine c_cond rfl (fun h => ?_) (fun h => ?_))) | refine c_block ?_ | refine c_skip ?_ | refine c_exit ?_ | refine c_regionQN rfl rfl (by decide +kernel) ?_)) | apply s_stepQ | (refine kQG ?_; (first | refine s_gyesQ rfl rfl rfl ?_ | refine s_gnoQ rfl rfl rfl rfl rfl ?_ | ((first | refine s_splitQ_d rfl rfl (fun h => ?_) (fun h => ?_) | refine s_splitQ_n rfl rfl (fun h => ?_) (fun h => ?_)) <;> (try (first | contradiction | (exfalso; omega)))) | refine s_splitQ_nb rfl rfl (fun h => ?_) (fun h => ?_) | refine s_splitQ rfl rfl (fun h => ?_) (fun h => ?_))) | refine lQ_then ?_ | refine lQ_ends ?_ | (refine kE ?_; (first | refine e_then_r ?_ | refine e_block_r ?_ | refine e_then_n ?_ | refine e_then_x ?_ | refine e_block_n ?_ | refine e_block_x ?_ | refine e_block_y rfl ?_)) | refine l_ends ?_)
    · refine e_round (j + 1) (by omega) ⟨slook_to rfl (vint_to (by push_cast; omega)), rfl, (by repeat' first | exact trivial | refine ⟨rfl, ?_⟩)⟩ (fun w hw => ?_) (by omega)
      rw [← markRTo_set l k r (by omega)]
      simp only [Nat.zero_add, Int.toNat_natCast, Nat.add_zero] at hw ⊢
      exact hw
    · obtain rfl : j = l.length := by omega
      rw [markRTo_all]
      refine s_leave1 rfl rfl (fun w hw => ⟨_, _, _, rfl, ⟨rfl, ?_, rfl⟩, SSt.lone hw⟩)
      have := OVec.blk (k := 4) (T := 100) b l.length cap ((iotaR k l.length).flatMap cRect) r (by rw [hrl, hil]) (by rw [List.length_append, hrl] at h2 ⊢; rw [hil]; exact h2) h3 h4
      unfold ORects OVs
      rw [hil]; exact this
section
variable {n : Nat} {lo : SMut} {s : World} {ops : Array Oper} {Q : Exit → Act → World → Prop} {E : SEnv} {L : SHeap} {dd : Nat} {ty : TypeId} {pos : String} {after : Array Edge} {rest : List Oper}
end
end Go.Proofs.YtakijgpoaeggnaaGreat
/-
  Contracts: the laws' own helpers on regions that are arguments.
-/
set_option linter.unusedVariables false
namespace Go.Proofs.YtakijgpoaeggnaaGreat
open Go Sx Go.ChangeShapes Go.WideShapes Go.ChangeAt Go.RowKit
attribute [local irreducible] Exit.then Exit.inBlock bodyPost
def eReg : SElem (List DRect) where
  k := 1
  dflt := []
  cells := fun _ d => [d]
  klen := fun _ _ => rfl
  rd := fun w d l => RRects w d l
  own := fun d l H => ORects d l H
  keep := fun h hw => RVs.keep h hw
  reads := fun h hw => ORects.rd h hw
theorem eReg_dflt : eReg.dflt = [] := rfl
theorem RRects.one {w : World} {v : Value} {l : List DRect} (h : RRects w v l) : v.oneCell' = true := by
  obtain ⟨a, q, rfl⟩ := h.form; rfl
theorem open_rect {W : World} {cs : List Value} (h : SRd Tryz.prog W 189 cs) : ∃ r : DRect, cs = cRect r := by
  obtain ⟨l, q⟩ := h.struct
  obtain ⟨x0, g0, _⟩ := (SRd.sub q 0 0 3 rfl).int
  obtain ⟨x1, g1, _⟩ := (SRd.sub q 1 1 3 rfl).int
  obtain ⟨x2, g2, _⟩ := (SRd.sub q 2 2 3 rfl).int
  obtain ⟨x3, g3, _⟩ := (SRd.sub q 3 3 3 rfl).int
  exact ⟨⟨x0, x1, x2, x3⟩, cells_eq l rfl (fun k hk => match k, hk with | 0, _ => take1 g0 | 1, _ => take1 g1 | 2, _ => take1 g2 | 3, _ => take1 g3 | k + 4, hk => absurd hk (by omega))⟩
theorem open_rects {W : World} {v : Value} {n : Nat} {rows : Nat → List Value} (hr : RRow W v 4 n rows) (h : ∀ i, i < n → ∃ r : DRect, rows i = cRect r) : ∃ l, RRects W v l := by
  obtain ⟨l, hl, hlr⟩ := rows_list (fun cs (r : DRect) => cs = cRect r) DRect.zero n rows h
  exact ⟨l, hr.congr hl (fun i hi => (hlr i hi).symm)⟩
theorem open_region {W : World} {cs : List Value} (h : SRd Tryz.prog W 147 cs) : ∃ (l : List DRect) (v : Value), cs = [v] ∧ RRects W v l := by
  obtain ⟨l, q⟩ := h.struct
  obtain ⟨v, n, rows, g0, hr, hel⟩ := (SRd.sub q 0 0 145 rfl).slice (by decide)
  obtain ⟨ss, he⟩ := open_rects hr (fun i hi => open_rect (hel i hi))
  exact ⟨ss, v, cells_eq l rfl (fun k hk => match k, hk with | 0, _ => take1 g0 | k + 1, hk => absurd hk (by omega)), he⟩
theorem c_toRect (r : DRect) (W : World) : SYields Tryz.prog 183 #[vRect r] (vRect r) W := by
  (first | apply SYields.mk | apply SYieldsF.mk | skip); refine s_enter Tryz.func183 rfl Tryz.ntmps183 rfl ?_
  repeat' (first | exact rfl | (apply kO; (first | exact ov_pure rfl | (apply kOBin; (first | exact aBin)) | (apply kOCall; (first | (apply kCallB; (first | exact aBlt | exact aLenR)))) | (apply kOLoad; (first | exact aLdF | exact aLdR)) | exact ov_fieldAddr rfl | (apply kOIdx; (first | exact aIdx)) | exact aRest | exact aNew | exact (ov_field1 (ft := 31) rfl rfl rfl rfl))) | (refine kN ?_; (first | (refine kStore ?_; (first | refine s_store1 _ rfl rfl gpA rfl (by rfl) ?_ | refine s_storeS _ rfl rfl gpA rfl rfl (by rfl) ?_ | refine s_storeS _ rfl rfl gpA rfl (ones_img oiA) (by rfl) ?_)) | refine s_boxS rfl rfl (fun b hb => ?_) | refine s_allocS rfl (fun b hb => ?_) | refine s_box1 rfl rfl rfl (fun b hb => ?_) | refine s_alloc1 rfl rfl (fun b hb => ?_) | refine s_buildSlice0 rfl (fun b hb => ?_) | refine s_buildSlice rfl rfl rfl rfl rfl (fun b hb => ?_) | apply s_step)) | (refine kG ?_; (first | refine s_gyes rfl rfl rfl ?_ | refine s_gno rfl rfl rfl rfl rfl ?_ | ((first | refine s_split_d rfl rfl (fun h => ?_) (fun h => ?_) | refine s_split_n rfl rfl (fun h => ?_) (fun h => ?_)) <;> (try (first | contradiction | (exfalso; omega)))) | refine s_split_nb rfl rfl (fun h => ?_) (fun h => ?_) | refine s_split rfl rfl (fun h => ?_) (fun h => ?_))) | refine l_then ?_ | (refine kC ?_; (first | refine c_seq ?_ | refine c_regionN rfl ?_ | refine c_ret ?_ | (refine kCond ?_; (first | refine c_cond_t rfl ?_ | refine c_cond_f rfl ?_ | ((first | refine c_cond_d rfl (fun h => ?_) (fun h => ?_) | refine c_cond_n rfl (fun h => ?_) (fun h => ?_)) <;> (try (first | contradiction | (exfalso; omega)))) | refine c_cond_nb rfl (fun h => ?_) (fun h => ?_) | refine c_cond rfl (fun h => ?_) (fun h => ?_))) | refine c_block ?_ | refine c_skip ?_ | refine c_exit ?_ | refine c_regionQN rfl rfl (by decide +kernel) ?_)) | apply s_stepQ | (refine kQG ?_; (first | refine s_gyesQ rfl rfl rfl ?_ | refine s_gnoQ rfl rfl rfl rfl rfl ?_ | ((first | refine s_splitQ_d rfl rfl (fun h => ?_) (fun h => ?_) | refine s_splitQ_n rfl rfl (fun h => ?_) (fun h => ?_)) <;> (try (first | contradiction | (exfalso; omega)))) | refine s_splitQ_nb rfl rfl (fun h => ?_) (fun h => ?_) | refine s_splitQ rfl rfl (fun h => ?_) (fun h => ?_))) | refine lQ_then ?_ | refine lQ_ends ?_ | (refine kE ?_; (first | refine e_then_r ?_ | refine e_block_r ?_ | refine e_then_n ?_ | refine e_then_x ?_ | refine e_block_n ?_ | refine e_block_x ?_ | refine e_block_y rfl ?_)) | refine l_ends ?_)
  all_goals (refine kE ?_; refine s_leaveSF rfl rfl rfl fwA (fun w hw => ?_))
  all_goals exact ⟨rfl, hw.below⟩
theorem rzero_set (b : Nat) {l : List DRect} {j : Nat} (h : j < l.length) : (l.take j ++ List.replicate (l.length - j) DRect.zero).set j (l.getD j DRect.zero) = l.take (j + 1) ++ List.replicate (l.length - (j + 1)) DRect.zero := by
  rw [List.set_append_right _ _ (by rw [List.length_take]; omega), List.length_take, show j - min j l.length = 0 by omega, show l.length - j = (l.length - (j + 1)) + 1 by omega, List.replicate_succ, List.set_cons_zero, take_getD DRect.zero h, List.append_assoc]; rfl
theorem rzero_cells : ∀ n : Nat, (List.replicate n [Value.int .i64 0, .int .i64 0, .int .i64 0, .int .i64 0]).flatten = (List.replicate n DRect.zero).flatMap cRect
  | 0 => rfl
  | n + 1 => by rw [List.replicate_succ, List.flatten_cons, rzero_cells n, List.replicate_succ, List.flatMap_cons]; rfl
set_option maxHeartbeats 4000000 in
theorem c_toRectS (v : Value) (l : List DRect) (W : World) (hv : RRects W v l) (hl : l.length ≤ 1048576) : SYieldsF Tryz.prog 171 #[v] (fun u H => ORects u l H) W := by
  have hln : ∀ j, j ≤ l.length → (l.take j ++ List.replicate (l.length - j) DRect.zero).length = l.length := fun j hj => by simp; omega
  (first | apply SYields.mk | apply SYieldsF.mk | skip); refine s_enter Tryz.func171 rfl Tryz.ntmps171 rfl ?_
  repeat' (first | exact rfl | (apply kO; (first | exact ov_pure rfl | (apply kOBin; (first | exact aBin)) | (apply kOCall; (first | (apply kCallF; (first | exact (ov_call rfl (fun w hw => c_toRect _ w)))) | (apply kCallB; (first | exact aBlt | exact (ov_lenR (fun w hw => RRow.keep hv (hw.cells rfl)) rfl) | exact aLenR)))) | (apply kOLoad; (first | exact (ov_ldRZ (fun w hw => RRow.keep hv (hw.cells rfl)) rfl rfl (by omega) rfl) | exact aLdF | exact aLdR)) | exact ov_fieldAddr rfl | (apply kOIdx; (first | exact (ov_idxR (fun w hw => RRow.keep hv (hw.cells rfl)) rfl rfl (by omega)) | exact aIdx)) | exact aRest | exact aNew | exact (ov_field1 (ft := 31) rfl rfl rfl rfl))) | (refine kN ?_; (first | (refine kStore ?_; (first | (refine s_setVs _ (v := .slice (some ⟨b, 0, none⟩) l.length l.length) (c := cRect) (kk := 4) (a := l.getD j.1 DRect.zero) rfl rfl (by assumption) gpA (fun _ => rfl) rfl (by rw [hln _ hj1]; omega) (fun H' hu => ?_)) | refine s_store1 _ rfl rfl gpA rfl (by rfl) ?_ | refine s_storeS _ rfl rfl gpA rfl rfl (by rfl) ?_ | refine s_storeS _ rfl rfl gpA rfl (ones_img oiA) (by rfl) ?_)) | refine s_boxS rfl rfl (fun b hb => ?_) | refine s_allocS rfl (fun b hb => ?_) | refine s_box1 rfl rfl rfl (fun b hb => ?_) | refine s_alloc1 rfl rfl (fun b hb => ?_) | (refine kWMake ?_; (refine s_makeS rfl rfl rfl (by decide) ⟨by omega, by omega, by omega⟩ (by omega) rfl (fun b hb => ?_))) | refine s_buildSlice0 rfl (fun b hb => ?_) | refine s_buildSlice rfl rfl rfl rfl rfl (fun b hb => ?_) | apply s_step)) | (refine kG ?_; (first | refine s_gyes rfl rfl rfl ?_ | refine s_gno rfl rfl rfl rfl rfl ?_ | ((first | refine s_split_d rfl rfl (fun h => ?_) (fun h => ?_) | refine s_split_n rfl rfl (fun h => ?_) (fun h => ?_)) <;> (try (first | contradiction | (exfalso; omega)))) | refine s_split_nb rfl rfl (fun h => ?_) (fun h => ?_) | refine s_split rfl rfl (fun h => ?_) (fun h => ?_))) | refine l_then ?_ | (refine kC ?_; (first | (refine c_loopV (ι := Nat × SPiece) (fun j => j.1 ≤ l.length ∧ ORects (.slice (some ⟨b, 0, none⟩) l.length l.length) (l.take j.1 ++ List.replicate (l.length - j.1) DRect.zero) j.2) (fun j => [(4, .int .i64 (j.1 : Int))]) (fun j => [j.2]) (fun j => l.length - j.1) (0, _) ⟨by dsimp only; omega, by dsimp only; rw [List.take_zero, List.nil_append, Nat.sub_zero]; have := OVs.whole (c := cRect) (k := 4) (T := 100) (fun _ => rfl) b (List.replicate l.length DRect.zero) (by rw [List.length_replicate]; unfold maxLen; omega); rw [List.length_replicate] at this; exact this⟩ rfl (fun _ => rfl) ⟨rfl, trivial⟩ (fun w hw => by rw [← rzero_cells]; simpa using hw) (fun j hj => ?_); obtain ⟨hj1, hj2⟩ := hj) | refine c_seq ?_ | refine c_regionN rfl ?_ | refine c_ret ?_ | (refine kCond ?_; (first | refine c_cond_t rfl ?_ | refine c_cond_f rfl ?_ | ((first | refine c_cond_d rfl (fun h => ?_) (fun h => ?_) | refine c_cond_n rfl (fun h => ?_) (fun h => ?_)) <;> (try (first | contradiction | (exfalso; omega)))) | refine c_cond_nb rfl (fun h => ?_) (fun h => ?_) | refine c_cond rfl (fun h => ?_) (fun h => ?_))) | refine c_block ?_ | refine c_skip ?_ | refine c_exit ?_ | refine c_regionQN rfl rfl (by decide +kernel) ?_)) | apply s_stepQ | (refine kQG ?_; (first | refine s_gyesQ rfl rfl rfl ?_ | refine s_gnoQ rfl rfl rfl rfl rfl ?_ | ((first | refine s_splitQ_d rfl rfl (fun h => ?_) (fun h => ?_) | refine s_splitQ_n rfl rfl (fun h => ?_) (fun h => ?_)) <;> (try (first | contradiction | (exfalso; omega)))) | refine s_splitQ_nb rfl rfl (fun h => ?_) (fun h => ?_) | refine s_splitQ rfl rfl (fun h => ?_) (fun h => ?_))) | refine lQ_then ?_ | refine lQ_ends ?_ | (refine kE ?_; (first | refine e_then_r ?_ | refine e_block_r ?_ | refine e_then_n ?_ | refine e_then_x ?_ | refine e_block_n ?_ | refine e_block_x ?_ | refine e_block_y rfl ?_)) | refine l_ends ?_)
  · rw [Int.toNat_natCast, rzero_set b (by omega)] at hu
    exact e_round (j.1 + 1, H') ⟨by dsimp only; omega, hu⟩ ⟨rfl, (by repeat' first | exact trivial | refine ⟨rfl, ?_⟩)⟩ (fun w hw => hw) (by dsimp only; omega)
  · rw [show j.1 = l.length by omega, List.take_length, Nat.sub_self, List.replicate_zero, List.append_nil] at hj2
    exact s_leave1 rfl rfl (fun w hw => ⟨_, _, rfl, hj2, hw.toFresh (H := j.2) gpA⟩)
theorem c_toRegion (v : Value) (l : List DRect) (W : World) (hv : RRects W v l) (hl : l.length ≤ 1048576) : SYieldsF Tryz.prog 134 #[vReg v] (fun u H => OReg u l H) W := by
  (first | apply SYields.mk | apply SYieldsF.mk | skip); refine s_enter Tryz.func134 rfl Tryz.ntmps134 rfl ?_
  repeat' (first | exact rfl | (apply kO; (first | exact ov_pure rfl | (apply kOBin; (first | exact aBin)) | (apply kOCall; (first | (apply kCallB; (first | exact aBlt | exact aLenR)))) | (apply kOLoad; (first | exact aLdF | exact aLdR)) | exact ov_fieldAddr rfl | (apply kOIdx; (first | exact aIdx)) | exact aRest | exact aNew | exact (ov_field1 (ft := 31) rfl rfl rfl rfl))) | (refine kN ?_; (first | (refine kCall ?_; (first | (refine kWFn 171 ?_; (refine s_callF (fun u H => ORects u l H) rfl (fun w hw => c_toRectS _ _ w (RVs.keep hv (hw.cells rfl)) hl) rfl (fun u H hu => ?_); have f1 := hu.form; obtain ⟨_, _, rfl⟩ := f1)) | apply s_step)) | (refine kStore ?_; (first | (refine s_storeS _ rfl rfl gpA rfl (ones_cons (OVs.one (by assumption)) rfl) (by rfl) ?_) | (refine s_store1 _ rfl rfl gpA (OVs.one (by assumption)) (by rfl) ?_) | refine s_store1 _ rfl rfl gpA rfl (by rfl) ?_ | refine s_storeS _ rfl rfl gpA rfl rfl (by rfl) ?_ | refine s_storeS _ rfl rfl gpA rfl (ones_img oiA) (by rfl) ?_)) | refine s_boxS rfl rfl (fun b hb => ?_) | refine s_allocS rfl (fun b hb => ?_) | refine s_box1 rfl rfl rfl (fun b hb => ?_) | refine s_alloc1 rfl rfl (fun b hb => ?_) | refine s_buildSlice0 rfl (fun b hb => ?_) | refine s_buildSlice rfl rfl rfl rfl rfl (fun b hb => ?_) | apply s_step)) | (refine kG ?_; (first | refine s_gyes rfl rfl rfl ?_ | refine s_gno rfl rfl rfl rfl rfl ?_ | ((first | refine s_split_d rfl rfl (fun h => ?_) (fun h => ?_) | refine s_split_n rfl rfl (fun h => ?_) (fun h => ?_)) <;> (try (first | contradiction | (exfalso; omega)))) | refine s_split_nb rfl rfl (fun h => ?_) (fun h => ?_) | refine s_split rfl rfl (fun h => ?_) (fun h => ?_))) | refine l_then ?_ | (refine kC ?_; (first | refine c_seq ?_ | refine c_regionN rfl ?_ | refine c_ret ?_ | (refine kCond ?_; (first | refine c_cond_t rfl ?_ | refine c_cond_f rfl ?_ | ((first | refine c_cond_d rfl (fun h => ?_) (fun h => ?_) | refine c_cond_n rfl (fun h => ?_) (fun h => ?_)) <;> (try (first | contradiction | (exfalso; omega)))) | refine c_cond_nb rfl (fun h => ?_) (fun h => ?_) | refine c_cond rfl (fun h => ?_) (fun h => ?_))) | refine c_block ?_ | refine c_skip ?_ | refine c_exit ?_ | refine c_regionQN rfl rfl (by decide +kernel) ?_)) | apply s_stepQ | (refine kQG ?_; (first | refine s_gyesQ rfl rfl rfl ?_ | refine s_gnoQ rfl rfl rfl rfl rfl ?_ | ((first | refine s_splitQ_d rfl rfl (fun h => ?_) (fun h => ?_) | refine s_splitQ_n rfl rfl (fun h => ?_) (fun h => ?_)) <;> (try (first | contradiction | (exfalso; omega)))) | refine s_splitQ_nb rfl rfl (fun h => ?_) (fun h => ?_) | refine s_splitQ rfl rfl (fun h => ?_) (fun h => ?_))) | refine lQ_then ?_ | refine lQ_ends ?_ | (refine kE ?_; (first | refine e_then_r ?_ | refine e_block_r ?_ | refine e_then_n ?_ | refine e_then_x ?_ | refine e_block_n ?_ | refine e_block_x ?_ | refine e_block_y rfl ?_)) | refine l_ends ?_)
  all_goals (refine kE ?_; refine s_leaveSF rfl rfl rfl fwA (fun w hw => ?_))
  all_goals exact ⟨_, _, rfl, ⟨_, rfl, hu⟩, hw.toFresh (H := H) gpA⟩
theorem c_szRectS (v : Value) (l : List DRect) (left : Int) (w : World) (hv : RRects w v l) (hl : 0 ≤ left ∧ left ≤ 1048576) : SYields Tryz.prog 166 #[v, .int .i64 left] (.int .i64 (szI l.length left)) w := by
  have hk := hv.len
  (first | apply SYields.mk | apply SYieldsF.mk | skip); refine s_enter Tryz.func166 rfl Tryz.ntmps166 rfl ?_
  repeat' (first | exact rfl | (apply kO; (first | exact ov_pure rfl | (apply kOBin; (first | exact aBin)) | (apply kOCall; (first | (apply kCallB; (first | exact aBlt | exact (ov_lenR (fun w hw => RRow.keep hv (hw.cells rfl)) rfl) | exact aLenR)))) | (apply kOLoad; (first | exact aLdF | exact aLdR)) | exact ov_fieldAddr rfl | (apply kOIdx; (first | exact aIdx)) | exact aRest | exact aNew | exact (ov_field1 (ft := 31) rfl rfl rfl rfl))) | (refine kN ?_; (first | (refine kStore ?_; (first | refine s_store1 _ rfl rfl gpA rfl (by rfl) ?_ | refine s_storeS _ rfl rfl gpA rfl rfl (by rfl) ?_ | refine s_storeS _ rfl rfl gpA rfl (ones_img oiA) (by rfl) ?_)) | refine s_boxS rfl rfl (fun b hb => ?_) | refine s_allocS rfl (fun b hb => ?_) | refine s_box1 rfl rfl rfl (fun b hb => ?_) | refine s_alloc1 rfl rfl (fun b hb => ?_) | refine s_buildSlice0 rfl (fun b hb => ?_) | refine s_buildSlice rfl rfl rfl rfl rfl (fun b hb => ?_) | apply s_step)) | (refine kG ?_; (first | refine s_gyes rfl rfl rfl ?_ | refine s_gno rfl rfl rfl rfl rfl ?_ | ((first | refine s_split_d rfl rfl (fun h => ?_) (fun h => ?_) | refine s_split_n rfl rfl (fun h => ?_) (fun h => ?_)) <;> (try (first | contradiction | (exfalso; omega)))) | refine s_split_nb rfl rfl (fun h => ?_) (fun h => ?_) | refine s_split rfl rfl (fun h => ?_) (fun h => ?_))) | refine l_then ?_ | (refine kC ?_; (first | refine c_seq ?_ | refine c_regionN rfl ?_ | refine c_ret ?_ | (refine kCond ?_; (first | refine c_cond_t rfl ?_ | refine c_cond_f rfl ?_ | ((first | refine c_cond_d rfl (fun h => ?_) (fun h => ?_) | refine c_cond_n rfl (fun h => ?_) (fun h => ?_)) <;> (try (first | contradiction | (exfalso; omega)))) | refine c_cond_nb rfl (fun h => ?_) (fun h => ?_) | refine c_cond rfl (fun h => ?_) (fun h => ?_))) | refine c_block ?_ | refine c_skip ?_ | refine c_exit ?_ | refine c_regionQN rfl rfl (by decide +kernel) ?_)) | apply s_stepQ | (refine kQG ?_; (first | refine s_gyesQ rfl rfl rfl ?_ | refine s_gnoQ rfl rfl rfl rfl rfl ?_ | ((first | refine s_splitQ_d rfl rfl (fun h => ?_) (fun h => ?_) | refine s_splitQ_n rfl rfl (fun h => ?_) (fun h => ?_)) <;> (try (first | contradiction | (exfalso; omega)))) | refine s_splitQ_nb rfl rfl (fun h => ?_) (fun h => ?_) | refine s_splitQ rfl rfl (fun h => ?_) (fun h => ?_))) | refine lQ_then ?_ | refine lQ_ends ?_ | (refine kE ?_; (first | refine e_then_r ?_ | refine e_block_r ?_ | refine e_then_n ?_ | refine e_then_x ?_ | refine e_block_n ?_ | refine e_block_x ?_ | refine e_block_y rfl ?_)) | refine l_ends ?_)
  all_goals refine s_leave1 rfl rfl (fun w hw => ⟨?_, hw.below⟩)
  all_goals (refine ret_int ?_; unfold szI at *; (repeat' split at *) <;> omega)
theorem c_szRegion (v : Value) (l : List DRect) (left : Int) (w : World) (hv : RRects w v l) (hl : 0 ≤ left ∧ left ≤ 1048576) : SYields Tryz.prog 126 #[vReg v, .int .i64 left] (.int .i64 (szI l.length left)) w := by
  have hk := hv.len
  (first | apply SYields.mk | apply SYieldsF.mk | skip); refine s_enter Tryz.func126 rfl Tryz.ntmps126 rfl ?_
  repeat' (first | exact rfl | (apply kO; (first | exact ov_pure rfl | (apply kOBin; (first | exact aBin)) | (apply kOCall; (first | (apply kCallF; (first | exact (ov_call rfl (fun w hw => c_szRectS _ _ _ w (RVs.keep hv (hw.cells rfl)) (by omega))))) | (apply kCallB; (first | exact aBlt | exact aLenR)))) | (apply kOLoad; (first | exact aLdF | exact aLdR)) | exact ov_fieldAddr rfl | (apply kOIdx; (first | exact aIdx)) | exact aRest | exact aNew | exact (ov_field1 (ft := 31) rfl rfl rfl rfl))) | (refine kN ?_; (first | (refine kStore ?_; (first | refine s_store1 _ rfl rfl gpA rfl (by rfl) ?_ | refine s_storeS _ rfl rfl gpA rfl rfl (by rfl) ?_ | refine s_storeS _ rfl rfl gpA rfl (ones_img oiA) (by rfl) ?_)) | refine s_boxS rfl rfl (fun b hb => ?_) | refine s_allocS rfl (fun b hb => ?_) | refine s_box1 rfl rfl rfl (fun b hb => ?_) | refine s_alloc1 rfl rfl (fun b hb => ?_) | refine s_buildSlice0 rfl (fun b hb => ?_) | refine s_buildSlice rfl rfl rfl rfl rfl (fun b hb => ?_) | apply s_step)) | (refine kG ?_; (first | refine s_gyes rfl rfl rfl ?_ | refine s_gno rfl rfl rfl rfl rfl ?_ | ((first | refine s_split_d rfl rfl (fun h => ?_) (fun h => ?_) | refine s_split_n rfl rfl (fun h => ?_) (fun h => ?_)) <;> (try (first | contradiction | (exfalso; omega)))) | refine s_split_nb rfl rfl (fun h => ?_) (fun h => ?_) | refine s_split rfl rfl (fun h => ?_) (fun h => ?_))) | refine l_then ?_ | (refine kC ?_; (first | refine c_seq ?_ | refine c_regionN rfl ?_ | refine c_ret ?_ | (refine kCond ?_; (first | refine c_cond_t rfl ?_ | refine c_cond_f rfl ?_ | ((first | refine c_cond_d rfl (fun h => ?_) (fun h => ?_) | refine c_cond_n rfl (fun h => ?_) (fun h => ?_)) <;> (try (first | contradiction | (exfalso; omega)))) | refine c_cond_nb rfl (fun h => ?_) (fun h => ?_) | refine c_cond rfl (fun h => ?_) (fun h => ?_))) | refine c_block ?_ | refine c_skip ?_ | refine c_exit ?_ | refine c_regionQN rfl rfl (by decide +kernel) ?_)) | apply s_stepQ | (refine kQG ?_; (first | refine s_gyesQ rfl rfl rfl ?_ | refine s_gnoQ rfl rfl rfl rfl rfl ?_ | ((first | refine s_splitQ_d rfl rfl (fun h => ?_) (fun h => ?_) | refine s_splitQ_n rfl rfl (fun h => ?_) (fun h => ?_)) <;> (try (first | contradiction | (exfalso; omega)))) | refine s_splitQ_nb rfl rfl (fun h => ?_) (fun h => ?_) | refine s_splitQ rfl rfl (fun h => ?_) (fun h => ?_))) | refine lQ_then ?_ | refine lQ_ends ?_ | (refine kE ?_; (first | refine e_then_r ?_ | refine e_block_r ?_ | refine e_then_n ?_ | refine e_then_x ?_ | refine e_block_n ?_ | refine e_block_x ?_ | refine e_block_y rfl ?_)) | refine l_ends ?_)
  all_goals refine s_leave1 rfl rfl (fun w hw => ⟨?_, hw.below⟩)
  all_goals (refine ret_int ?_; unfold szI at *; (repeat' split at *) <;> omega)
end Go.Proofs.YtakijgpoaeggnaaGreat
/-
  The plain functions, continued: chains of buffers. No program in sight.
-/
set_option linter.unusedVariables false
namespace Sx
structure DChain where
  bufs : List DImg
  ages : List Int
  dams : List (List DRect)
  scene : DScene
deriving DecidableEq
def DChain.age (c : DChain) (k : Nat) : Int := c.ages.getD k 0
def DChain.buf (c : DChain) (k : Nat) : DImg := c.bufs.getD k DImg.zero
def DChain.dam (c : DChain) (k : Nat) : List DRect := c.dams.getD k []
def DChain.bufOk (c : DChain) (k : Nat) : Prop :=
  (c.buf k).ok ∧ (c.buf k).W = c.scene.W ∧ (c.buf k).H = c.scene.H ∧ (0 ≤ c.age k ∧ c.age k ≤ 3 ∧ c.age k ≤ c.dams.length + 1) ∧ ∀ i, i < k → c.age i = c.age k → c.age k = 0
instance (c : DChain) (k : Nat) : Decidable (c.bufOk k) := by unfold DChain.bufOk; infer_instance
def DChain.ok (c : DChain) : Prop :=
  c.scene.ok ∧ (1 ≤ c.bufs.length ∧ c.bufs.length ≤ 3) ∧ c.ages.length = c.bufs.length ∧ c.dams.length ≤ 3 ∧ (∀ k, k < c.bufs.length → c.bufOk k) ∧ ∀ k, k < c.dams.length → regionOk (c.dam k)
instance (c : DChain) : Decidable c.ok := by unfold DChain.ok; infer_instance
def nbFrom (l : List Int) : Nat → Nat → Nat → Nat
  | 0, best, _ => best
  | f + 1, best, k => if k < l.length then (if l.getD k 0 = 0 then k else nbFrom l f (if l.getD best 0 < l.getD k 0 then k else best) (k + 1)) else best
def nextB (c : DChain) : Nat := nbFrom c.ages c.ages.length 0 0
def nextBuffer (c : DChain) : Int := if c.ok then (nextB c : Int) else -1
theorem nbFrom_lt (l : List Int) : ∀ f best k, best < l.length → nbFrom l f best k < l.length
  | 0, best, k, h => h
  | f + 1, best, k, h => by
    unfold nbFrom
    split
    · split
      · assumption
      · apply nbFrom_lt
        split <;> assumption
    · exact h
theorem nextB_lt {c : DChain} (h : c.ok) : nextB c < c.bufs.length := by
  rw [← h.2.2.1]
  exact nbFrom_lt _ _ _ _ (by rw [h.2.2.1]; exact h.2.1.1)
def staleG (c : DChain) (k : Nat) (s : DScene) : Grid := fun y x => points (damageOf c.scene s) y x || (List.range (c.age k - 1).toNat).any (fun i => points (c.dam i) y x)
def staleR (c : DChain) (k : Nat) (s : DScene) : List DRect := if c.age k = 0 then canon (scrG s) else canon (staleG c k s)
def staleRegion (c : DChain) (k : Int) (s : DScene) : List DRect := if c.ok ∧ s.ok ∧ sameSize s c.scene ∧ 0 ≤ k ∧ k < c.bufs.length then staleR c k.toNat s else []
def presentable (c : DChain) (s : DScene) : Prop := c.ok ∧ s.ok ∧ sameSize s c.scene
instance (c : DChain) (s : DScene) : Decidable (presentable c s) := by unfold presentable; infer_instance
def newDams (c : DChain) (s : DScene) : List (List DRect) := (damageOf c.scene s :: c.dams).take 3
def newAge (c : DChain) (s : DScene) (i : Nat) : Int :=
  let a := if i = nextB c then 1 else if c.age i = 0 then 0 else c.age i + 1
  if 3 < a ∨ ((newDams c s).length : Int) + 1 < a then 0 else a
def presented (c : DChain) (s : DScene) : DChain :=
  ⟨c.bufs.set (nextB c) (paintInto (c.buf (nextB c)) s (staleR c (nextB c) s)), (List.range c.ages.length).map (newAge c s), newDams c s, s⟩
def shows (c : DChain) : Prop := ∀ k, k < c.bufs.length → c.age k ≠ 0 → ∀ y x : Nat, scrG c.scene y x = true → (∀ i : Nat, (i : Int) < c.age k - 1 → points (c.dam i) y x = false) → (c.buf k).at x y = paintF c.scene x y
theorem newDams_len (c : DChain) (s : DScene) : (newDams c s).length = min 3 (c.dams.length + 1) := by simp [newDams]; omega
theorem newDams_zero (c : DChain) (s : DScene) : (newDams c s).getD 0 [] = damageOf c.scene s := rfl
theorem newDams_succ (c : DChain) (s : DScene) {i : Nat} (h : i < 2) : (newDams c s).getD (i + 1) [] = c.dam i := by
  unfold newDams DChain.dam
  rw [List.getD_eq_getElem?_getD, List.getD_eq_getElem?_getD, List.getElem?_take, if_pos (by omega), List.getElem?_cons_succ]
theorem presented_age {c : DChain} {s : DScene} {k : Nat} (hk : k < c.ages.length) : (presented c s).age k = newAge c s k := by
  unfold DChain.age presented
  rw [List.getD_eq_getElem?_getD, List.getElem?_map, List.getElem?_range hk]; rfl
theorem presented_buf {c : DChain} {s : DScene} {k : Nat} (hk : k < c.bufs.length) : (presented c s).buf k = if k = nextB c then paintInto (c.buf (nextB c)) s (staleR c (nextB c) s) else c.buf k := by
  unfold DChain.buf presented
  rw [List.getD_eq_getElem?_getD, List.getElem?_set]
  by_cases e : nextB c = k
  · subst e
    rw [if_pos rfl, if_pos hk, if_pos rfl]; rfl
  · rw [if_neg e, if_neg (fun h => e h.symm), List.getD_eq_getElem?_getD]
end Sx
/-
  The plain functions, continued: a rectangle filled row by row; one surface painted, as the program and as the reference do it. No program in sight.
-/
set_option linter.unusedVariables false
namespace Sx
def boxTo (r : DRect) (f old : Int → Int → Int) (j i : Nat) (x y : Int) : Int :=
  if (r.X ≤ x ∧ x < r.X + r.W ∧ r.Y ≤ y) ∧ (y < r.Y + j ∨ (y = r.Y + j ∧ x < r.X + i)) then f x y else old x y
theorem boxTo_zero (r : DRect) (f old : Int → Int → Int) : boxTo r f old 0 0 = old := by
  funext x y; unfold boxTo; rw [if_neg (by omega)]
theorem boxTo_here (r : DRect) (f old : Int → Int → Int) (j i : Nat) : boxTo r f old j i (r.X + i) (r.Y + j) = old (r.X + i) (r.Y + j) := by
  unfold boxTo; rw [if_neg (by omega)]
theorem boxTo_next {r : DRect} {f old : Int → Int → Int} {j i : Nat} (hi : (i : Int) < r.W) : boxTo r f old j (i + 1) = fun x y => if x = r.X + i ∧ y = r.Y + j then f (r.X + i) (r.Y + j) else boxTo r f old j i x y := by
  funext x y
  by_cases e : x = r.X + i ∧ y = r.Y + j
  · obtain ⟨rfl, rfl⟩ := e
    rw [if_pos ⟨rfl, rfl⟩]
    unfold boxTo; rw [if_pos (by omega)]
  · rw [if_neg e]
    unfold boxTo
    by_cases e2 : (r.X ≤ x ∧ x < r.X + r.W ∧ r.Y ≤ y) ∧ (y < r.Y + j ∨ (y = r.Y + j ∧ x < r.X + i))
    · rw [if_pos e2, if_pos (by omega)]
    · rw [if_neg e2, if_neg (by omega)]
theorem boxTo_row {r : DRect} {f old : Int → Int → Int} {j i : Nat} (hi : r.W ≤ (i : Int)) : boxTo r f old j i = boxTo r f old (j + 1) 0 := by
  funext x y
  unfold boxTo
  by_cases e2 : (r.X ≤ x ∧ x < r.X + r.W ∧ r.Y ≤ y) ∧ (y < r.Y + j ∨ (y = r.Y + j ∧ x < r.X + i))
  · rw [if_pos e2, if_pos (by omega)]
  · rw [if_neg e2, if_neg (by omega)]
theorem boxTo_all {r : DRect} {f old : Int → Int → Int} {j : Nat} (hj : (j : Int) = r.H) (x y : Int) : boxTo r f old j 0 x y = if r.X ≤ x ∧ x < r.X + r.W ∧ r.Y ≤ y ∧ y < r.Y + r.H then f x y else old x y := by
  unfold boxTo
  by_cases e : r.X ≤ x ∧ x < r.X + r.W ∧ r.Y ≤ y ∧ y < r.Y + r.H
  · rw [if_pos e, if_pos (by omega)]
  · rw [if_neg e, if_neg (by omega)]
theorem has_iff {r : DRect} (h : r.ok) (x y : Int) : r.has x y ↔ r.X ≤ x ∧ x < r.X + r.W ∧ r.Y ≤ y ∧ y < r.Y + r.H := by
  unfold DRect.has; constructor
  · rintro ⟨_, h2⟩; omega
  · intro h2; exact ⟨h, by omega⟩
theorem box_layer {s : DSurf} {w h : Int} (hw : 1 ≤ w ∧ w ≤ 16) (hh : 1 ≤ h ∧ h ≤ 16) (old : Int → Int → Int) {j : Nat} (hj : (j : Int) = ((surfRect s).inter ⟨0, 0, w, h⟩).H) {x y : Int} (hx : 0 ≤ x ∧ x < w) (hy : 0 ≤ y ∧ y < h) :
    boxTo ((surfRect s).inter ⟨0, 0, w, h⟩) (fun a b => over (pixOf s a b) (old a b)) old j 0 x y = layer s x y (old x y) := by
  have hb : (⟨0, 0, w, h⟩ : DRect).ok := by unfold DRect.ok; dsimp only; omega
  have hi := (DRect.inter_ok (surfRect_ok s) hb).1
  have h1 := inter_has (surfRect_ok s) hb x y
  have h2 := has_iff hi x y
  have h3 := has_iff hb x y
  dsimp only at h3
  rw [boxTo_all hj]
  unfold layer
  by_cases e : (surfRect s).has x y
  · rw [if_pos e, if_pos (h2.1 (h1.2 ⟨e, h3.2 (by omega)⟩))]
  · rw [if_neg e, if_neg (fun hh => e (h1.1 (h2.2 hh)).1)]
theorem one_layer {s : DSurf} (hs : s.ok) (hv : s.Visible = true) {g : Grid} (old : Int → Int → Int) {x y : Int} (hg : inG g x y = true) : oneTo s g old ((surfSize s).1 * (surfSize s).2).toNat x y = layer s x y (old x y) := by
  rw [oneTo_all hs]
  unfold layer
  rw [surfRect_vis hs hv, hg]
  by_cases e : (rawRect s).has x y
  · rw [if_pos ⟨e, rfl⟩, if_pos e]
  · rw [if_neg (fun hh => e hh.1), if_neg e]
theorem hid_layer {s : DSurf} (hv : ¬ s.Visible = true) (x y b : Int) : layer s x y b = b := by
  unfold layer; rw [surfRect_hid hv, if_neg (zero_has x y)]
def hitN (s : DSurf) (g : Grid) (w h : Int) : Nat → Int
  | 0 => 0
  | k + 1 => hitN s g w h k + (if ((0 ≤ kx s k ∧ kx s k ≤ w - 1) ∧ (0 ≤ ky s k ∧ ky s k ≤ h - 1)) ∧ inG g (kx s k) (ky s k) = true then 1 else 0)
theorem hitN_bd (s : DSurf) (g : Grid) (w h : Int) : ∀ k : Nat, 0 ≤ hitN s g w h k ∧ hitN s g w h k ≤ k
  | 0 => ⟨Int.le_refl _, Int.le_refl _⟩
  | k + 1 => by have := hitN_bd s g w h k; unfold hitN; split <;> omega
theorem one_miss {s : DSurf} (hs : s.ok) {g : Grid} {old : Int → Int → Int} {w h : Int} (hw : 1 ≤ w) {k : Nat} (hk : k < ((surfSize s).1 * (surfSize s).2).toNat)
    (hn : ¬ (((0 ≤ kx s k ∧ kx s k ≤ w - 1) ∧ (0 ≤ ky s k ∧ ky s k ≤ h - 1)) ∧ inG g (kx s k) (ky s k) = true)) :
    mapTo (oneTo s g old (k + 1)) w (w * h).toNat = mapTo (oneTo s g old k) w (w * h).toNat ∧ hitN s g w h (k + 1) = hitN s g w h k := by
  refine ⟨mapTo_congr hw (fun x y h1 h2 h3 h4 => oneTo_miss hs g old hk x y (fun hh => hn ?_)), by unfold hitN; rw [if_neg hn, Int.add_zero]; cases k <;> rfl⟩
  obtain ⟨rfl, rfl, hg⟩ := hh
  exact ⟨⟨⟨h1, by omega⟩, h3, by omega⟩, hg⟩
theorem one_hit {s : DSurf} (hs : s.ok) {g : Grid} {old : Int → Int → Int} {w h : Int} {k : Nat} (hk : k < ((surfSize s).1 * (surfSize s).2).toNat)
    (hx : 0 ≤ kx s k ∧ kx s k ≤ w - 1) (hy : 0 ≤ ky s k ∧ ky s k ≤ h - 1) (hg : inG g (kx s k) (ky s k) = true) :
    (mapTo (oneTo s g old k) w (w * h).toNat).set (ky s k * w + kx s k).toNat (over ((pictureOf s).data.getD k 0) ((mapTo (oneTo s g old k) w (w * h).toNat).getD (ky s k * w + kx s k).toNat 0)) = mapTo (oneTo s g old (k + 1)) w (w * h).toNat
    ∧ hitN s g w h k + 1 = hitN s g w h (k + 1) := by
  constructor
  · rw [mapTo_at (oneTo s g old k) (w := w) (h := h) ⟨hx.1, by omega⟩ ⟨hy.1, by omega⟩, mapTo_set (oneTo s g old k) (w := w) (h := h) ⟨hx.1, by omega⟩ ⟨hy.1, by omega⟩]
    congr 1
    funext a b
    rw [oneTo_hit hs g old hk hg a b]
  · conv => rhs; unfold hitN
    rw [if_pos ⟨⟨hx, hy⟩, hg⟩]
theorem newPaint (s : DScene) : mapTo (paintTo s 0) s.W (s.W * s.H).toNat = List.replicate (s.W * s.H).toNat s.Back := by
  apply List.ext_getElem?
  intro q
  rw [List.getElem?_replicate]
  unfold mapTo
  rw [List.getElem?_map]
  by_cases e : q < (s.W * s.H).toNat
  · rw [List.getElem?_range e, if_pos e]; rfl
  · rw [List.getElem?_eq_none (by rw [List.length_range]; omega), if_neg e]; rfl
theorem screen_in {w h x y : Int} (hw : 1 ≤ w ∧ w ≤ 16) (hh : 1 ≤ h ∧ h ≤ 16) (hx : 0 ≤ x ∧ x < w) (hy : 0 ≤ y ∧ y < h) : inG (rectG ⟨0, 0, w, h⟩) x y = true := by
  unfold inG rectG DRect.holds DRect.has DRect.ok
  exact decide_eq_true (by dsimp only; omega)
theorem painted_step {s : DScene} (h : s.ok) {k : Nat} (hk : k < s.ss.length) (hv : (s.ss.getD k default).Visible = true) :
    mapTo (oneTo (s.ss.getD k default) (rectG ⟨0, 0, s.W, s.H⟩) (paintTo s k) ((surfSize (s.ss.getD k default)).1 * (surfSize (s.ss.getD k default)).2).toNat) s.W (s.W * s.H).toNat = mapTo (paintTo s (k + 1)) s.W (s.W * s.H).toNat :=
  mapTo_congr h.1.1 (fun x y h1 h2 h3 h4 => by rw [one_layer (getD_ok h hk) hv _ (screen_in h.1 h.2.1 ⟨h1, h2⟩ ⟨h3, h4⟩), paintTo_succ hk])
theorem painted_skip {s : DScene} {k : Nat} (hk : k < s.ss.length) (hv : ¬ (s.ss.getD k default).Visible = true) : paintTo s (k + 1) = paintTo s k := by
  funext x y; rw [paintTo_succ hk, hid_layer hv]
theorem box_at {s : DSurf} (hs : s.ok) {w h : Int} (hw : 1 ≤ w ∧ w ≤ 16) (hh : 1 ≤ h ∧ h ≤ 16) {j i : Nat} (hi : (i : Int) < ((surfRect s).inter ⟨0, 0, w, h⟩).W) (hj : (j : Int) < ((surfRect s).inter ⟨0, 0, w, h⟩).H) :
    (0 ≤ ((surfRect s).inter ⟨0, 0, w, h⟩).X + i ∧ ((surfRect s).inter ⟨0, 0, w, h⟩).X + i < w) ∧ (0 ≤ ((surfRect s).inter ⟨0, 0, w, h⟩).Y + j ∧ ((surfRect s).inter ⟨0, 0, w, h⟩).Y + j < h)
    ∧ (0 ≤ ((surfRect s).inter ⟨0, 0, w, h⟩).X + i - (surfRect s).X ∧ ((surfRect s).inter ⟨0, 0, w, h⟩).X + i - (surfRect s).X < (pictureOf s).W) ∧ (0 ≤ ((surfRect s).inter ⟨0, 0, w, h⟩).Y + j - (surfRect s).Y ∧ ((surfRect s).inter ⟨0, 0, w, h⟩).Y + j - (surfRect s).Y < (pictureOf s).H)
    ∧ (surfRect s).X = s.X ∧ (surfRect s).Y = s.Y := by
  have hb : (⟨0, 0, w, h⟩ : DRect).ok := by unfold DRect.ok; dsimp only; omega
  have ho := (DRect.inter_ok (surfRect_ok s) hb).1
  have h0 : ((surfRect s).inter ⟨0, 0, w, h⟩).has (((surfRect s).inter ⟨0, 0, w, h⟩).X + i) (((surfRect s).inter ⟨0, 0, w, h⟩).Y + j) := ⟨ho, by omega⟩
  have h1 := (inter_has (surfRect_ok s) hb _ _).1 h0
  have h2 := h1.2.2
  dsimp only at h2
  by_cases hv : s.Visible = true
  · rw [surfRect_vis hs hv] at h1 ⊢
    have h3 := h1.1.2
    have hz := surfSize_pic hs
    rw [surfRect_vis hs hv] at h2
    unfold rawRect at h3 ⊢
    dsimp only at h3 ⊢
    unfold rawRect at h2
    rw [hz.1, hz.2]
    omega
  · rw [surfRect_hid hv] at h1; exact absurd h1.1 (zero_has _ _)
theorem pixOf_pix (s : DSurf) (x y : Int) : pixP (pixOf s x y) := by
  by_cases h : s.ok
  · exact (pictureOf_ok h).at_pix _ _
  · unfold pixOf pictureOf
    rw [if_neg h]
    unfold DImg.at DImg.zero pixP
    simp
theorem over_pixP {t b : Int} (ht : pixP t) (hb : pixP b) : pixP (over t b) := by
  have := over_bd ht hb; unfold pixP; omega
theorem boxTo_pix {r : DRect} {f old : Int → Int → Int} (hf : ∀ x y, pixP (f x y)) (ho : ∀ x y, pixP (old x y)) (j i : Nat) (x y : Int) : pixP (boxTo r f old j i x y) := by
  unfold boxTo; split
  · exact hf x y
  · exact ho x y
theorem box_bd {s : DSurf} {w h : Int} (hw : 1 ≤ w ∧ w ≤ 16) (hh : 1 ≤ h ∧ h ≤ 16) : ((-1000 ≤ ((surfRect s).inter ⟨0, 0, w, h⟩).X ∧ ((surfRect s).inter ⟨0, 0, w, h⟩).X ≤ 1000) ∧ (-1000 ≤ ((surfRect s).inter ⟨0, 0, w, h⟩).Y ∧ ((surfRect s).inter ⟨0, 0, w, h⟩).Y ≤ 1000)) ∧ (0 ≤ ((surfRect s).inter ⟨0, 0, w, h⟩).W ∧ ((surfRect s).inter ⟨0, 0, w, h⟩).W ≤ 16) ∧ (0 ≤ ((surfRect s).inter ⟨0, 0, w, h⟩).H ∧ ((surfRect s).inter ⟨0, 0, w, h⟩).H ≤ 16) := by
  have hb : (⟨0, 0, w, h⟩ : DRect).ok := by unfold DRect.ok; dsimp only; omega
  have ho := DRect.inter_ok (surfRect_ok s) hb
  have h1 := ho.1
  have h2 := ho.2.1
  have h3 := ho.2.2.1
  unfold DRect.ok at h1
  dsimp only at h2 h3
  omega
theorem box_step {s : DSurf} (hs : s.ok) {w h : Int} (hw : 1 ≤ w ∧ w ≤ 16) (hh : 1 ≤ h ∧ h ≤ 16) (old : Int → Int → Int) {j i : Nat} (hi : (i : Int) < ((surfRect s).inter ⟨0, 0, w, h⟩).W) (hj : (j : Int) < ((surfRect s).inter ⟨0, 0, w, h⟩).H) :
    (mapTo (boxTo ((surfRect s).inter ⟨0, 0, w, h⟩) (fun a c => over (pixOf s a c) (old a c)) old j i) w (w * h).toNat).set ((((surfRect s).inter ⟨0, 0, w, h⟩).Y + j) * w + (((surfRect s).inter ⟨0, 0, w, h⟩).X + i)).toNat (over ((pictureOf s).data.getD ((((surfRect s).inter ⟨0, 0, w, h⟩).Y + j - (surfRect s).Y) * (pictureOf s).W + (((surfRect s).inter ⟨0, 0, w, h⟩).X + i) - (surfRect s).X).toNat 0) ((mapTo (boxTo ((surfRect s).inter ⟨0, 0, w, h⟩) (fun a c => over (pixOf s a c) (old a c)) old j i) w (w * h).toNat).getD ((((surfRect s).inter ⟨0, 0, w, h⟩).Y + j) * w + (((surfRect s).inter ⟨0, 0, w, h⟩).X + i)).toNat 0))
    = mapTo (boxTo ((surfRect s).inter ⟨0, 0, w, h⟩) (fun a c => over (pixOf s a c) (old a c)) old j (i + 1)) w (w * h).toNat := by
  have hb := box_at hs hw hh hi hj
  rw [mapTo_at _ hb.1 hb.2.1, boxTo_here, mapTo_set _ hb.1 hb.2.1, boxTo_next hi]
  have e : (((surfRect s).inter ⟨0, 0, w, h⟩).Y + j - (surfRect s).Y) * (pictureOf s).W + (((surfRect s).inter ⟨0, 0, w, h⟩).X + i) - (surfRect s).X = (((surfRect s).inter ⟨0, 0, w, h⟩).Y + j - s.Y) * (pictureOf s).W + (((surfRect s).inter ⟨0, 0, w, h⟩).X + i - s.X) := by
    rw [hb.2.2.2.2.1, hb.2.2.2.2.2]; omega
  rw [e]
  rfl
theorem box_done {s : DScene} (h : s.ok) {k : Nat} (hk : k < s.ss.length) {j : Nat} (hj : (j : Int) = ((surfRect (s.ss.getD k default)).inter ⟨0, 0, s.W, s.H⟩).H) :
    mapTo (boxTo ((surfRect (s.ss.getD k default)).inter ⟨0, 0, s.W, s.H⟩) (fun a c => over (pixOf (s.ss.getD k default) a c) (paintTo s k a c)) (paintTo s k) j 0) s.W (s.W * s.H).toNat = mapTo (paintTo s (k + 1)) s.W (s.W * s.H).toNat :=
  mapTo_congr h.1.1 (fun x y h1 h2 h3 h4 => by rw [box_layer h.1 h.2.1 (paintTo s k) hj ⟨h1, h2⟩ ⟨h3, h4⟩, paintTo_succ hk])
end Sx
/-
  The plain functions, continued: how many points are painted. No program in sight.
-/
set_option linter.unusedVariables false
namespace Sx
def hitG (s : DSurf) (g : Grid) (k : Nat) : Grid := fun y x => g y x && decide (hitTo s k x y)
end Sx
/-
  The plain functions, continued: the pixels of a region copied; only what can be seen is painted. No program in sight.
-/
set_option linter.unusedVariables false
namespace Sx
def bothR (to fr : DImg) : DRect := ⟨0, 0, min to.W fr.W, min to.H fr.H⟩
def copyTo (to fr : DImg) (g : Grid) (j i : Nat) : Int → Int → Int := boxTo (bothR to fr) (copyF to fr g) to.at j i
theorem copyTo_zero (to fr : DImg) (g : Grid) (ht : to.ok) : mapTo (copyTo to fr g 0 0) to.W (to.W * to.H).toNat = to.data := by
  unfold copyTo; rw [boxTo_zero]; exact ht.self.symm
theorem copyTo_row {to fr : DImg} {g : Grid} {j i : Nat} (hi : (i : Int) = min to.W fr.W) : copyTo to fr g j i = copyTo to fr g (j + 1) 0 := by
  unfold copyTo; exact boxTo_row (by unfold bothR; dsimp only; omega)
theorem copyTo_yes {to fr : DImg} {g : Grid} (ht : to.ok) (hf : fr.ok) {j i : Nat} (hj : (j : Int) < min to.H fr.H) (hi : (i : Int) < min to.W fr.W) (hg : g j i = true) :
    (mapTo (copyTo to fr g j i) to.W (to.W * to.H).toNat).set ((j : Int) * to.W + i).toNat (fr.data.getD ((j : Int) * fr.W + i).toNat 0) = mapTo (copyTo to fr g j (i + 1)) to.W (to.W * to.H).toNat := by
  rw [mapTo_set _ (w := to.W) (h := to.H) (x := (i : Int)) (y := (j : Int)) (by omega) (by omega)]
  congr 1
  unfold copyTo
  rw [boxTo_next (by unfold bothR; dsimp only; omega)]
  unfold bothR
  dsimp only
  funext x y
  rw [Int.zero_add, Int.zero_add]
  have e : copyF to fr g (i : Int) (j : Int) = fr.data.getD ((j : Int) * fr.W + i).toNat 0 := by
    unfold copyF; rw [if_pos ⟨hg, by omega, by omega⟩]; rfl
  rw [e]
theorem copyTo_no {to fr : DImg} {g : Grid} {j i : Nat} (hi : (i : Int) < min to.W fr.W) (hg : ¬ g j i = true) : copyTo to fr g j (i + 1) = copyTo to fr g j i := by
  unfold copyTo
  rw [boxTo_next (by unfold bothR; dsimp only; omega)]
  funext x y
  split
  · rename_i h
    obtain ⟨rfl, rfl⟩ := h
    rw [boxTo_here]
    unfold bothR
    dsimp only
    rw [Int.zero_add, Int.zero_add]
    unfold copyF
    rw [if_neg (fun e => hg e.1)]
  · rfl
theorem copyTo_all {to fr : DImg} {r : List DRect} (ht : to.ok) (hf : fr.ok) (hr : regionOk r) {j : Nat} (hj : (j : Int) = min to.H fr.H) : (⟨to.W, to.H, mapTo (copyTo to fr (points r) j 0) to.W (to.W * to.H).toNat⟩ : DImg) = copyRegion to fr r := by
  unfold copyRegion
  rw [if_pos ⟨ht, hf, hr⟩]
  unfold fimg
  congr 1
  refine mapTo_congr ht.1.1 (fun x y h1 h2 h3 h4 => ?_)
  unfold copyTo
  rw [boxTo_all (by unfold bothR; dsimp only; exact hj)]
  unfold bothR
  dsimp only
  split
  · rfl
  · unfold copyF
    rw [if_neg (by omega)]
def pvF (s : DScene) (n : Nat) (x y : Int) : Int := pvTo s n x.toNat y.toNat
def pvN (s : DScene) : Nat → Int
  | 0 => (card (((rectG (scrR s)).without (coverG s 0))) : Int)
  | n + 1 => pvN s n + (card (seenG s n) : Int)
def paintVisible (s : DScene) : DImg := if s.ok then fimg (pvF s s.ss.length) s.W s.H else DImg.zero
def visibleCost (s : DScene) : Int := if s.ok then pvN s s.ss.length else 0
def seeTo (s : DScene) (k : Nat) (j i : Nat) : Int → Int → Int := boxTo (scrR s) (fun x y => pvF s (k + 1) x y) (pvF s k) j i
end Sx
/-
  The plain functions, continued: chains that stay valid; which buffer is presented when. No program in sight.
-/
set_option linter.unusedVariables false
namespace Sx
theorem newAge_bd {c : DChain} {s : DScene} (hc : c.ok) {k : Nat} (hk : k < c.bufs.length) : 0 ≤ newAge c s k ∧ newAge c s k ≤ 3 ∧ newAge c s k ≤ ((newDams c s).length : Int) + 1 := by
  have hb := (hc.2.2.2.2.1 k hk).2.2.2.1
  unfold newAge
  dsimp only
  by_cases e : k = nextB c
  · simp only [if_pos e]; rw [if_neg (by omega)]; omega
  · simp only [if_neg e]
    by_cases h0 : c.age k = 0
    · simp only [if_pos h0]; rw [if_neg (by omega)]; omega
    · simp only [if_neg h0]; split <;> omega
theorem newAge_next {c : DChain} {s : DScene} : newAge c s (nextB c) = 1 := by
  unfold newAge
  dsimp only
  rw [if_pos rfl, if_neg (by omega)]
theorem newAge_other {c : DChain} {s : DScene} {k : Nat} (h : k ≠ nextB c) (hn : newAge c s k ≠ 0) : newAge c s k = c.age k + 1 ∧ c.age k ≠ 0 := by
  unfold newAge at hn ⊢
  dsimp only at hn ⊢
  rw [if_neg h] at hn ⊢
  by_cases h0 : c.age k = 0
  · rw [if_pos h0] at hn; simp at hn
  · rw [if_neg h0] at hn ⊢
    split at hn
    · exact absurd rfl hn
    · rename_i hh; rw [if_neg hh]; exact ⟨rfl, h0⟩
theorem presented_ok {c : DChain} {s : DScene} (h : presentable c s) : (presented c s).ok := by
  have hc := h.1
  have hlen : (presented c s).bufs.length = c.bufs.length := by simp [presented]
  have hdl : (presented c s).dams.length = (newDams c s).length := rfl
  refine ⟨h.2.1, by rw [hlen]; exact hc.2.1, by rw [hlen, ← hc.2.2.1]; simp [presented], by rw [hdl, newDams_len]; omega, fun k hk => ?_, fun k hk => ?_⟩
  · rw [hlen] at hk
    have hk2 : k < c.ages.length := by rw [hc.2.2.1]; exact hk
    have hb := hc.2.2.2.2.1 k hk
    have hbd := newAge_bd (s := s) hc hk
    refine ⟨?_, ?_, ?_, ?_, fun i hi e => ?_⟩
    · rw [presented_buf hk]
      split
      · have h1 := (hc.2.2.2.2.1 _ (nextB_lt hc)).1
        unfold paintInto; rw [if_pos h.2.1]; exact copyRegion_ok h1 _
      · exact hb.1
    · rw [presented_buf hk]
      split
      · have h1 := hc.2.2.2.2.1 _ (nextB_lt hc)
        unfold paintInto; rw [if_pos h.2.1, (copyRegion_size _ _ _).1, h1.2.1]; exact h.2.2.1.symm
      · rw [hb.2.1]; exact h.2.2.1.symm
    · rw [presented_buf hk]
      split
      · have h1 := hc.2.2.2.2.1 _ (nextB_lt hc)
        unfold paintInto; rw [if_pos h.2.1, (copyRegion_size _ _ _).2, h1.2.2.1]; exact h.2.2.2.symm
      · rw [hb.2.2.1]; exact h.2.2.2.symm
    · rw [presented_age hk2, hdl]; exact hbd
    · rw [presented_age hk2, presented_age (by omega)] at *
      by_cases h0 : newAge c s k = 0
      · exact h0
      · exfalso
        have hn := nextB_lt hc
        by_cases e1 : k = nextB c
        · have h2 := newAge_other (c := c) (s := s) (k := i) (by omega) (by rw [e]; exact h0)
          rw [e1, newAge_next] at e
          omega
        · have h3 := newAge_other e1 h0
          by_cases e2 : i = nextB c
          · rw [e2, newAge_next] at e; omega
          · have h2 := newAge_other e2 (by rw [e]; exact h0)
            exact h3.2 (hb.2.2.2.2 i hi (by omega))
  · rw [hdl, newDams_len] at hk
    show regionOk ((newDams c s).getD k [])
    cases k with
    | zero => rw [newDams_zero]; exact damageOf_ok _ _
    | succ k =>
      rw [newDams_succ c s (by omega)]
      exact hc.2.2.2.2.2 k (by omega)
def inside (c : DChain) : Prop := ∀ k, k < c.dams.length → ∀ y x, y < 16 → x < 16 → points (c.dam k) y x = true → scrG c.scene y x = true
def nbOf (l : List Int) : Nat := nbFrom l l.length 0 0
def nextAges (l : List Int) (d : Nat) : List Int := (List.range l.length).map (fun i =>
  let a := if i = nbOf l then 1 else if l.getD i 0 = 0 then 0 else l.getD i 0 + 1
  if 3 < a ∨ ((min 3 (d + 1) : Nat) : Int) + 1 < a then 0 else a)
def agesA (n k : Nat) : List Int := (List.range n).map (fun i => if i < k then (k : Int) - i else 0)
def agesB (n j : Nat) : List Int := (List.range n).map (fun i => if i < j then (j : Int) - i else (n : Int) + j - i)
def newChain (s : DScene) (n : Int) : DChain := if s.ok ∧ (1 ≤ n ∧ n ≤ 3) then ⟨List.replicate n.toNat (newImage s.W s.H s.Back), List.replicate n.toNat 0, [], s⟩ else ⟨[], [], [], ⟨0, 0, 0, []⟩⟩
end Sx
/-
  Chains of buffers in memory, and the laws' own helpers on them: made, measured, compared.
-/
set_option linter.unusedVariables false
namespace Go.Proofs.YtakijgpoaeggnaaGreat
open Go Sx Go.ChangeShapes Go.WideShapes Go.ChangeAt Go.RowKit
attribute [local irreducible] Exit.then Exit.inBlock bodyPost OVs OInts
structure ChV where
  b : Value
  a : Value
  d : Value
  s : Value
abbrev cChain (c : DChain) (v : ChV) : List Value := [v.b, v.a, v.d, .int .i64 c.scene.W, .int .i64 c.scene.H, .int .i64 c.scene.Back, v.s]
abbrev vChain (c : DChain) (b a d s : Value) : Value := .agg #[b, a, d, .int .i64 c.scene.W, .int .i64 c.scene.H, .int .i64 c.scene.Back, s]
structure RCh (w : World) (c : DChain) (b a d s : Value) : Prop where
  bufs : RS eImg w b c.bufs
  ages : RInts w a c.ages
  dams : RS eReg w d c.dams
  surfs : RS eSurf w s c.scene.ss
theorem RCh.keep {w w' : World} {c : DChain} {b a d s : Value} (h : RCh w c b a d s) (hw : ∀ p u, w.cell? p = some u → w'.cell? p = some u) : RCh w' c b a d s := ⟨h.bufs.keep hw, h.ages.keep hw, h.dams.keep hw, h.surfs.keep hw⟩
theorem RCh.len {w : World} {c : DChain} {b a d s : Value} (h : RCh w c b a d s) : c.ages.length ≤ 9223372036854775807 := RRow.len h.ages
def OChain (u : Value) (c : DChain) (H : SPiece) : Prop := ∃ b a d s Hb Ha Hd Hs, u = vChain c b a d s ∧ OElems eImg 49 b c.bufs Hb ∧ OInts 3 a c.ages Ha ∧ OElems eReg 43 d c.dams Hd ∧ OElems eSurf 126 s c.scene.ss Hs ∧ H = [Hs, Hd, Ha, Hb].flatten
theorem eReg_ones {l : List DRect} {d : Value} (h : d.oneCell' = true) : oneCells (eReg.cells l d) = true := ones_cons h rfl
theorem eImg_ones {i : DImg} {d : Value} (h : d.oneCell' = true) : oneCells (eImg.cells i d) = true := ones_cons rfl (ones_cons rfl (ones_cons h rfl))
section
variable {P : Program} {n : Nat} {lo : SMut} {s : World} {ops : Array Oper} {Q : Exit → Act → World → Prop} {E : SEnv} {L : SHeap} {l : List Oper}
theorem w_four {A B C D : SPiece} (k : WPL P n lo s ops Q l E (A :: B :: C :: D :: L)) : WPL P n lo s ops Q l E ([A, B, C, D].flatten :: L) := w_perm (by simp) k
end
def imgsLen (l : List DImg) : Nat := l.length + sumTo (fun i => (l.getD i DImg.zero).data.length) l.length
def regsLen (l : List (List DRect)) : Nat := l.length + sumTo (fun i => (l.getD i []).length) l.length
def chainLen (c : DChain) : Nat := imgsLen c.bufs + c.ages.length + regsLen c.dams + surfsLen c.scene.ss
theorem open_chain {W : World} {cs : List Value} (h : SRd Tryz.prog W 60 cs) : ∃ (c : DChain) (v : ChV), cs = cChain c v ∧ RCh W c v.b v.a v.d v.s := by
  obtain ⟨l, q⟩ := h.struct
  obtain ⟨vb, n0, rows0, g0, hr0, hel0⟩ := (SRd.sub q 0 0 54 rfl).slice (by decide)
  obtain ⟨bs, hb⟩ := open_elems eImg hr0 (fun i hi => open_img (hel0 i hi))
  obtain ⟨va, ka, g1, ha⟩ := (SRd.sub q 1 1 31 rfl).ints
  obtain ⟨vd, n2, rows2, g2, hr2, hel2⟩ := (SRd.sub q 2 2 55 rfl).slice (by decide)
  obtain ⟨ds, hd⟩ := open_elems eReg hr2 (fun i hi => open_region (hel2 i hi))
  obtain ⟨sc, vs, g3, hs⟩ := open_scene (SRd.sub q 3 3 58 rfl)
  exact ⟨⟨bs, ka, ds, sc⟩, ⟨vb, va, vd, vs⟩, cells_eq l rfl (fun k hk => match k, hk with | 0, _ => take1 g0 | 1, _ => take1 g1 | 2, _ => take1 g2 | 3, _ => take_at (j := 0) g3 rfl | 4, _ => take_at (j := 1) g3 rfl | 5, _ => take_at (j := 2) g3 rfl | 6, _ => take_at (j := 3) g3 rfl | k + 7, hk => absurd hk (by omega)), ⟨hb, ha, hd, hs⟩⟩
theorem c_toImageS (v : Value) (l : List DImg) (w : World) (hv : RS eImg w v l) (hl : imgsLen l ≤ 1048576) : SYieldsF Tryz.prog 65 #[v] (fun u H => OElems eImg 49 u l H) w := by
  obtain ⟨ds, hv⟩ := hv
  have hk := hv.row.len
  have hln : l.length ≤ imgsLen l := by unfold imgsLen; omega
  have hdn : ∀ i, i < l.length → (l.getD i DImg.zero).data.length ≤ 1048576 := fun i hi => by have := le_sumTo (fun i => (l.getD i DImg.zero).data.length) hi; unfold imgsLen at hl; omega
  (first | apply SYields.mk | apply SYieldsF.mk | skip); refine s_enter Tryz.func65 rfl Tryz.ntmps65 rfl ?_
  repeat' (first | exact rfl | (apply kO; (first | exact ov_pure rfl | (apply kOBin; (first | exact aBin)) | (apply kOCall; (first | (apply kCallB; (first | exact aBlt | exact (ov_lenR (fun w hw => hv.row.keep (hw.cells rfl)) rfl) | exact aLenR)))) | (apply kOLoad; (first | exact (ov_ldRZ (fun w hw => hv.row.keep (hw.cells rfl)) rfl rfl (by omega) rfl) | exact aLdF | exact aLdR)) | exact ov_fieldAddr rfl | (apply kOIdx; (first | exact (ov_idxR (fun w hw => hv.row.keep (hw.cells rfl)) rfl rfl (by omega)) | exact aIdx)) | exact aRest | exact aNew | exact (ov_field1 (ft := 31) rfl rfl rfl rfl))) | (refine kN ?_; (first | (refine kCall ?_; (first | (refine kWFunc ?_; (refine s_callF (fun u H => OImg u (l.getD j.1 DImg.zero) H) rfl (fun w hw => c_toImage _ _ w (RInts.keep (hv.rd _ (by omega)) (hw.cells rfl)) (hdn _ (by omega))) rfl (fun u H hu => ?_); obtain ⟨d', rfl, hu⟩ := hu; obtain ⟨ua, uc, rfl⟩ := hu.form)) | apply s_step)) | (refine kStore ?_; (first | (refine s_setRS 1 rfl rfl rfl rfl rfl (by rw [efill_length _ _ _ _ rfl _ _ (by omega)]; simp only [eImg, List.length_cons, List.length_nil]; omega) ?_) | refine s_store1 _ rfl rfl gpA rfl (by rfl) ?_ | refine s_storeS _ rfl rfl gpA rfl rfl (by rfl) ?_ | refine s_storeS _ rfl rfl gpA rfl (ones_img oiA) (by rfl) ?_)) | refine s_boxS rfl rfl (fun b hb => ?_) | refine s_allocS rfl (fun b hb => ?_) | refine s_box1 rfl rfl rfl (fun b hb => ?_) | refine s_alloc1 rfl rfl (fun b hb => ?_) | (refine kWMake ?_; (refine s_makeS rfl rfl rfl (by decide) ⟨by omega, by omega, by omega⟩ (by omega) rfl (fun b hb => ?_))) | refine s_buildSlice0 rfl (fun b hb => ?_) | refine s_buildSlice rfl rfl rfl rfl rfl (fun b hb => ?_) | apply s_step)) | (refine kG ?_; (first | refine s_gyes rfl rfl rfl ?_ | refine s_gno rfl rfl rfl rfl rfl ?_ | ((first | refine s_split_d rfl rfl (fun h => ?_) (fun h => ?_) | refine s_split_n rfl rfl (fun h => ?_) (fun h => ?_)) <;> (try (first | contradiction | (exfalso; omega)))) | refine s_split_nb rfl rfl (fun h => ?_) (fun h => ?_) | refine s_split rfl rfl (fun h => ?_) (fun h => ?_))) | refine l_then ?_ | (refine kC ?_; (first | (refine c_loopV (ι := Nat × (Nat → Value) × (Nat → SPiece)) (fun j => j.1 ≤ l.length ∧ ∀ i, i < j.1 → eImg.own (j.2.1 i) (l.getD i eImg.dflt) (j.2.2 i)) (fun j => [(4, .int .i64 (j.1 : Int))]) (fun j => [[(b, srow (efill eImg l j.2.1 [.int .i64 0, .int .i64 0, .slice none 0 0] l.length j.1) 49)], ecat j.2.2 j.1]) (fun j => l.length - j.1) (0, fun _ => undef, fun _ => []) ⟨by omega, fun i hi => by omega⟩ rfl (fun _ => rfl) ⟨rfl, trivial⟩ (fun w hw => by rw [efill_zero]; exact SSt.lone hw) (fun j hj => ?_)) | refine c_seq ?_ | refine c_regionN rfl ?_ | refine c_ret ?_ | (refine kCond ?_; (first | refine c_cond_t rfl ?_ | refine c_cond_f rfl ?_ | ((first | refine c_cond_d rfl (fun h => ?_) (fun h => ?_) | refine c_cond_n rfl (fun h => ?_) (fun h => ?_)) <;> (try (first | contradiction | (exfalso; omega)))) | refine c_cond_nb rfl (fun h => ?_) (fun h => ?_) | refine c_cond rfl (fun h => ?_) (fun h => ?_))) | refine c_block ?_ | refine c_skip ?_ | refine c_exit ?_ | refine c_regionQN rfl rfl (by decide +kernel) ?_)) | apply s_stepQ | (refine kQG ?_; (first | refine s_gyesQ rfl rfl rfl ?_ | refine s_gnoQ rfl rfl rfl rfl rfl ?_ | ((first | refine s_splitQ_d rfl rfl (fun h => ?_) (fun h => ?_) | refine s_splitQ_n rfl rfl (fun h => ?_) (fun h => ?_)) <;> (try (first | contradiction | (exfalso; omega)))) | refine s_splitQ_nb rfl rfl (fun h => ?_) (fun h => ?_) | refine s_splitQ rfl rfl (fun h => ?_) (fun h => ?_))) | refine lQ_then ?_ | refine lQ_ends ?_ | (refine kE ?_; (first | refine e_then_r ?_ | refine e_block_r ?_ | refine e_then_n ?_ | refine e_then_x ?_ | refine e_block_n ?_ | refine e_block_x ?_ | refine e_block_y rfl ?_)) | refine l_ends ?_)
  · refine e_round (j.1 + 1, upd j.2.1 j.1 (.slice ua (l.getD j.1 DImg.zero).data.length uc), upd j.2.2 j.1 H) ⟨by dsimp only; omega, fun i hi => ?_⟩ ⟨rfl, (by repeat' first | exact trivial | refine ⟨rfl, ?_⟩)⟩ (fun w hw => ?_) (by dsimp only; omega)
    · dsimp only at hi ⊢
      by_cases e : i = j.1
      · subst e; rw [upd_at, upd_at]; exact hu
      · rw [upd_old _ _ e, upd_old _ _ e]; exact hj.2 i (by omega)
    · dsimp only
      have hw := SSt.regroup hw
      rw [ecat_upd, ← efill_next eImg l j.2.1 _ _ rfl l.length j.1 (by omega) _ (fun i hi => upd_old _ _ (by omega)) (upd_at _ _ _)]
      rw [show 0 + (j.1 : Int).toNat * 3 = j.1 * eImg.k by rw [Int.toNat_natCast, Nat.zero_add]; rfl] at hw
      exact hw
  · have he : j.1 = l.length := by omega
    rw [he, efill_all]
    refine s_leave1 rfl rfl (fun w hw => ⟨_, _, rfl, ?_, hw.whole⟩)
    exact OElems.mk b (fun i hi => hj.2 i (by omega)) (by unfold maxLen; omega)
theorem c_toRegionS (v : Value) (l : List (List DRect)) (w : World) (hv : RS eReg w v l) (hl : regsLen l ≤ 1048576) : SYieldsF Tryz.prog 67 #[v] (fun u H => OElems eReg 43 u l H) w := by
  obtain ⟨ds, hv⟩ := hv
  have hk := hv.row.len
  have hln : l.length ≤ regsLen l := by unfold regsLen; omega
  have hdn : ∀ i, i < l.length → (l.getD i []).length ≤ 1048576 := fun i hi => by have := le_sumTo (fun i => (l.getD i []).length) hi; unfold regsLen at hl; omega
  (first | apply SYields.mk | apply SYieldsF.mk | skip); refine s_enter Tryz.func67 rfl Tryz.ntmps67 rfl ?_
  repeat' (first | exact rfl | (apply kO; (first | exact ov_pure rfl | (apply kOBin; (first | exact aBin)) | (apply kOCall; (first | (apply kCallB; (first | exact aBlt | exact (ov_lenR (fun w hw => hv.row.keep (hw.cells rfl)) rfl) | exact aLenR)))) | (apply kOLoad; (first | exact (ov_ldRZ (fun w hw => hv.row.keep (hw.cells rfl)) rfl rfl (by omega) rfl) | exact aLdF | exact aLdR)) | exact ov_fieldAddr rfl | (apply kOIdx; (first | exact (ov_idxR (fun w hw => hv.row.keep (hw.cells rfl)) rfl rfl (by omega)) | exact aIdx)) | exact aRest | exact aNew | exact (ov_field1 (ft := 31) rfl rfl rfl rfl))) | (refine kN ?_; (first | (refine kCall ?_; (first | (refine kWFunc ?_; (refine s_callF (fun u H => OReg u (l.getD j.1 []) H) rfl (fun w hw => c_toRegion _ _ w (eReg.keep (hv.rd _ (by omega)) (hw.cells rfl)) (hdn _ (by omega))) rfl (fun u H hu => ?_); obtain ⟨d', rfl, hu⟩ := hu; have f1 := hu.form; obtain ⟨ua, uc, rfl⟩ := f1)) | apply s_step)) | (refine kStore ?_; (first | (refine s_setRS 1 rfl rfl rfl rfl rfl (by rw [efill_length _ _ _ _ rfl _ _ (by omega)]; show _ + 1 ≤ l.length * 1; omega) ?_) | refine s_store1 _ rfl rfl gpA rfl (by rfl) ?_ | refine s_storeS _ rfl rfl gpA rfl rfl (by rfl) ?_ | refine s_storeS _ rfl rfl gpA rfl (ones_img oiA) (by rfl) ?_)) | refine s_boxS rfl rfl (fun b hb => ?_) | refine s_allocS rfl (fun b hb => ?_) | refine s_box1 rfl rfl rfl (fun b hb => ?_) | refine s_alloc1 rfl rfl (fun b hb => ?_) | (refine kWMake ?_; (refine s_makeS rfl rfl rfl (by decide) ⟨by omega, by omega, by omega⟩ (by omega) rfl (fun b hb => ?_))) | refine s_buildSlice0 rfl (fun b hb => ?_) | refine s_buildSlice rfl rfl rfl rfl rfl (fun b hb => ?_) | apply s_step)) | (refine kG ?_; (first | refine s_gyes rfl rfl rfl ?_ | refine s_gno rfl rfl rfl rfl rfl ?_ | ((first | refine s_split_d rfl rfl (fun h => ?_) (fun h => ?_) | refine s_split_n rfl rfl (fun h => ?_) (fun h => ?_)) <;> (try (first | contradiction | (exfalso; omega)))) | refine s_split_nb rfl rfl (fun h => ?_) (fun h => ?_) | refine s_split rfl rfl (fun h => ?_) (fun h => ?_))) | refine l_then ?_ | (refine kC ?_; (first | (refine c_loopV (ι := Nat × (Nat → Value) × (Nat → SPiece)) (fun j => j.1 ≤ l.length ∧ ∀ i, i < j.1 → eReg.own (j.2.1 i) (l.getD i eReg.dflt) (j.2.2 i)) (fun j => [(4, .int .i64 (j.1 : Int))]) (fun j => [[(b, srow (efill eReg l j.2.1 [.slice none 0 0] l.length j.1) 43)], ecat j.2.2 j.1]) (fun j => l.length - j.1) (0, fun _ => undef, fun _ => []) ⟨by omega, fun i hi => by omega⟩ rfl (fun _ => rfl) ⟨rfl, trivial⟩ (fun w hw => by rw [efill_zero]; exact SSt.lone hw) (fun j hj => ?_)) | refine c_seq ?_ | refine c_regionN rfl ?_ | refine c_ret ?_ | (refine kCond ?_; (first | refine c_cond_t rfl ?_ | refine c_cond_f rfl ?_ | ((first | refine c_cond_d rfl (fun h => ?_) (fun h => ?_) | refine c_cond_n rfl (fun h => ?_) (fun h => ?_)) <;> (try (first | contradiction | (exfalso; omega)))) | refine c_cond_nb rfl (fun h => ?_) (fun h => ?_) | refine c_cond rfl (fun h => ?_) (fun h => ?_))) | refine c_block ?_ | refine c_skip ?_ | refine c_exit ?_ | refine c_regionQN rfl rfl (by decide +kernel) ?_)) | apply s_stepQ | (refine kQG ?_; (first | refine s_gyesQ rfl rfl rfl ?_ | refine s_gnoQ rfl rfl rfl rfl rfl ?_ | ((first | refine s_splitQ_d rfl rfl (fun h => ?_) (fun h => ?_) | refine s_splitQ_n rfl rfl (fun h => ?_) (fun h => ?_)) <;> (try (first | contradiction | (exfalso; omega)))) | refine s_splitQ_nb rfl rfl (fun h => ?_) (fun h => ?_) | refine s_splitQ rfl rfl (fun h => ?_) (fun h => ?_))) | refine lQ_then ?_ | refine lQ_ends ?_ | (refine kE ?_; (first | refine e_then_r ?_ | refine e_block_r ?_ | refine e_then_n ?_ | refine e_then_x ?_ | refine e_block_n ?_ | refine e_block_x ?_ | refine e_block_y rfl ?_)) | refine l_ends ?_)
  · refine e_round (j.1 + 1, upd j.2.1 j.1 (.slice ua (l.getD j.1 []).length uc), upd j.2.2 j.1 H) ⟨by dsimp only; omega, fun i hi => ?_⟩ ⟨rfl, (by repeat' first | exact trivial | refine ⟨rfl, ?_⟩)⟩ (fun w hw => ?_) (by dsimp only; omega)
    · dsimp only at hi ⊢
      by_cases e : i = j.1
      · subst e; rw [upd_at, upd_at]; exact hu
      · rw [upd_old _ _ e, upd_old _ _ e]; exact hj.2 i (by omega)
    · dsimp only
      have hw := SSt.regroup hw
      rw [ecat_upd, ← efill_next eReg l j.2.1 _ _ rfl l.length j.1 (by omega) _ (fun i hi => upd_old _ _ (by omega)) (upd_at _ _ _)]
      rw [show 0 + (j.1 : Int).toNat * 1 = j.1 * eReg.k by rw [Int.toNat_natCast, Nat.zero_add]; rfl] at hw
      exact hw
  · have he : j.1 = l.length := by omega
    rw [he, efill_all]
    refine s_leave1 rfl rfl (fun w hw => ⟨_, _, rfl, ?_, hw.whole⟩)
    exact OElems.mk b (fun i hi => hj.2 i (by omega)) (by unfold maxLen; omega)
set_option maxHeartbeats 2000000 in
theorem c_toChain (c : DChain) (vb va vd vs : Value) (W : World) (hc : RCh W c vb va vd vs) (hl : chainLen c ≤ 1048576) : SYieldsF Tryz.prog 22 #[vChain c vb va vd vs] (fun u H => OChain u c H) W := by
  obtain ⟨r1, r2, r3, r4⟩ := hc
  have f1 := r1.form; have f2 := r2.form; have f3 := r3.form; have f4 := r4.form
  obtain ⟨_, _, rfl⟩ := f1
  obtain ⟨_, _, rfl⟩ := f2
  obtain ⟨_, _, rfl⟩ := f3
  obtain ⟨_, _, rfl⟩ := f4
  have hcl : chainLen c = imgsLen c.bufs + c.ages.length + regsLen c.dams + surfsLen c.scene.ss := rfl
  (first | apply SYields.mk | apply SYieldsF.mk | skip); refine s_enter Tryz.func22 rfl Tryz.ntmps22 rfl ?_
  repeat' (first | exact rfl | (apply kO; (first | exact ov_pure rfl | (apply kOBin; (first | exact aBin)) | (apply kOCall; (first | (apply kCallB; (first | exact aBlt | exact aLenR)))) | (apply kOLoad; (first | exact aLdF | exact aLdR)) | exact ov_fieldAddr rfl | (apply kOIdx; (first | exact aIdx)) | exact aRest | exact aNew | exact (ov_field1 (ft := 31) rfl rfl rfl rfl))) | (refine kN ?_; (first | (refine kCall ?_; (first | (refine kWFn 65 ?_; (refine s_callF (fun u H => OElems eImg 49 u c.bufs H) rfl (fun w hw => c_toImageS _ _ w (r1.keep (hw.cells rfl)) (by omega)) rfl (fun u1 H1 hu1 => ?_); have f1 := hu1.form; obtain ⟨_, _, rfl⟩ := f1)) | (refine kWFn 66 ?_; (refine s_callF (fun u H => OInts 3 u c.ages H) rfl (fun w hw => c_toIntS _ _ w (r2.keep (hw.cells rfl)) (by omega)) rfl (fun u2 H2 hu2 => ?_); have f1 := hu2.form; obtain ⟨_, _, rfl⟩ := f1)) | (refine kWFn 67 ?_; (refine s_callF (fun u H => OElems eReg 43 u c.dams H) rfl (fun w hw => c_toRegionS _ _ w (r3.keep (hw.cells rfl)) (by omega)) rfl (fun u3 H3 hu3 => ?_); have f1 := hu3.form; obtain ⟨_, _, rfl⟩ := f1)) | (refine kWFn 23 ?_; (refine s_callF (fun u H => OScene u c.scene H) rfl (fun w hw => c_toScene c.scene _ w (r4.keep (hw.cells rfl)) (by omega)) rfl (fun u4 H4 hu4 => ?_); obtain ⟨d4, rfl, hu4⟩ := hu4; have f1 := hu4.form; obtain ⟨_, _, rfl⟩ := f1)) | apply s_step)) | (refine kStore ?_; (first | (refine s_storeS _ rfl rfl gpA rfl (ones_cons rfl (ones_cons rfl (ones_cons rfl (ones_cons (OElems.one (by assumption)) rfl)))) (by rfl) ?_) | (refine s_store1 _ rfl rfl gpA (OElems.one (by assumption)) (by rfl) ?_) | (refine s_store1 _ rfl rfl gpA (OInts.one (by assumption)) (by rfl) ?_) | refine s_store1 _ rfl rfl gpA rfl (by rfl) ?_ | refine s_storeS _ rfl rfl gpA rfl rfl (by rfl) ?_ | refine s_storeS _ rfl rfl gpA rfl (ones_img oiA) (by rfl) ?_)) | refine s_boxS rfl rfl (fun b hb => ?_) | refine s_allocS rfl (fun b hb => ?_) | refine s_box1 rfl rfl rfl (fun b hb => ?_) | refine s_alloc1 rfl rfl (fun b hb => ?_) | refine s_buildSlice0 rfl (fun b hb => ?_) | refine s_buildSlice rfl rfl rfl rfl rfl (fun b hb => ?_) | apply s_step)) | (refine kG ?_; (first | refine s_gyes rfl rfl rfl ?_ | refine s_gno rfl rfl rfl rfl rfl ?_ | ((first | refine s_split_d rfl rfl (fun h => ?_) (fun h => ?_) | refine s_split_n rfl rfl (fun h => ?_) (fun h => ?_)) <;> (try (first | contradiction | (exfalso; omega)))) | refine s_split_nb rfl rfl (fun h => ?_) (fun h => ?_) | refine s_split rfl rfl (fun h => ?_) (fun h => ?_))) | refine l_then ?_ | (refine kC ?_; (first | refine c_seq ?_ | refine c_regionN rfl ?_ | refine c_ret ?_ | (refine kCond ?_; (first | refine c_cond_t rfl ?_ | refine c_cond_f rfl ?_ | ((first | refine c_cond_d rfl (fun h => ?_) (fun h => ?_) | refine c_cond_n rfl (fun h => ?_) (fun h => ?_)) <;> (try (first | contradiction | (exfalso; omega)))) | refine c_cond_nb rfl (fun h => ?_) (fun h => ?_) | refine c_cond rfl (fun h => ?_) (fun h => ?_))) | refine c_block ?_ | refine c_skip ?_ | refine c_exit ?_ | refine c_regionQN rfl rfl (by decide +kernel) ?_)) | apply s_stepQ | (refine kQG ?_; (first | refine s_gyesQ rfl rfl rfl ?_ | refine s_gnoQ rfl rfl rfl rfl rfl ?_ | ((first | refine s_splitQ_d rfl rfl (fun h => ?_) (fun h => ?_) | refine s_splitQ_n rfl rfl (fun h => ?_) (fun h => ?_)) <;> (try (first | contradiction | (exfalso; omega)))) | refine s_splitQ_nb rfl rfl (fun h => ?_) (fun h => ?_) | refine s_splitQ rfl rfl (fun h => ?_) (fun h => ?_))) | refine lQ_then ?_ | refine lQ_ends ?_ | (refine kE ?_; (first | refine e_then_r ?_ | refine e_block_r ?_ | refine e_then_n ?_ | refine e_then_x ?_ | refine e_block_n ?_ | refine e_block_x ?_ | refine e_block_y rfl ?_)) | refine l_ends ?_)
  all_goals (refine kE ?_; refine s_leaveSF rfl rfl rfl fwA (fun w hw => ?_))
  all_goals exact ⟨_, _, rfl, ⟨_, _, _, _, H1, H2, H3, H4, rfl, hu1, hu2, hu3, hu4, rfl⟩, hw.toFreshL (by repeat' first | exact List.nil_sublist _ | exact List.Sublist.slnil | refine List.Sublist.cons_cons _ ?_ | refine List.Sublist.cons _ ?_)⟩
theorem c_szImageS (v : Value) (l : List DImg) (left : Int) (w : World) (hv : RS eImg w v l) (hl : 0 ≤ left ∧ left ≤ 1048576) : SYields Tryz.prog 57 #[v, .int .i64 left] (.int .i64 (szI (imgsLen l) left)) w := by
  obtain ⟨ds, hv⟩ := hv
  have hk := hv.row.len
  have hm := fun j => sumTo_mono (fun i => (l.getD i DImg.zero).data.length) (i := j) (n := l.length)
  have hs := fun j => (show sumTo (fun i => (l.getD i DImg.zero).data.length) (j + 1) = sumTo (fun i => (l.getD i DImg.zero).data.length) j + (l.getD j DImg.zero).data.length from rfl)
  (first | apply SYields.mk | apply SYieldsF.mk | skip); refine s_enter Tryz.func57 rfl Tryz.ntmps57 rfl ?_
  repeat' (first | exact rfl | (apply kO; (first | exact ov_pure rfl | (apply kOBin; (first | exact aBin)) | (apply kOCall; (first | (apply kCallF; (first | exact (ov_call rfl (fun w hw => c_szImage (l.getD j DImg.zero) _ _ w (RInts.keep (hv.rd _ (by omega)) (hw.cells rfl)) (by omega))))) | (apply kCallB; (first | exact aBlt | exact aLenR)))) | (apply kOLoad; (first | exact aLdF | exact aLdR)) | exact ov_fieldAddr rfl | (apply kOIdx; (first | exact aIdx)) | exact aRest | exact aNew | exact (ov_field1 (ft := 31) rfl rfl rfl rfl))) | (refine kN ?_; (first | (refine kStore ?_; (first | refine s_store1 _ rfl rfl gpA rfl (by rfl) ?_ | refine s_storeS _ rfl rfl gpA rfl rfl (by rfl) ?_ | refine s_storeS _ rfl rfl gpA rfl (ones_img oiA) (by rfl) ?_)) | refine s_boxS rfl rfl (fun b hb => ?_) | refine s_allocS rfl (fun b hb => ?_) | refine s_box1 rfl rfl rfl (fun b hb => ?_) | refine s_alloc1 rfl rfl (fun b hb => ?_) | refine s_buildSlice0 rfl (fun b hb => ?_) | refine s_buildSlice rfl rfl rfl rfl rfl (fun b hb => ?_) | apply s_step)) | (refine kG ?_; (first | refine s_gyes rfl rfl rfl ?_ | refine s_gno rfl rfl rfl rfl rfl ?_ | ((first | refine s_split_d rfl rfl (fun h => ?_) (fun h => ?_) | refine s_split_n rfl rfl (fun h => ?_) (fun h => ?_)) <;> (try (first | contradiction | (exfalso; omega)))) | refine s_split_nb rfl rfl (fun h => ?_) (fun h => ?_) | refine s_split rfl rfl (fun h => ?_) (fun h => ?_))) | refine l_then ?_ | (refine kC ?_; (first | (refine c_loopV (ι := Nat) (fun j => j ≤ l.length ∧ 0 ≤ left - (l.length + sumTo (fun i => (l.getD i DImg.zero).data.length) j : Nat)) (fun j => [(1, .int .i64 (left - (l.length + sumTo (fun i => (l.getD i DImg.zero).data.length) j : Nat))), (5, .int .i64 (j : Int))]) (fun _ => []) (fun j => l.length - j) 0 ⟨by omega, by simp [sumTo]; omega⟩ rfl (fun _ => rfl) ⟨slook_to rfl (vint_to (by simp [sumTo])), rfl, trivial⟩ (fun w hw => hw) (fun j hj => ?_)) | refine c_seq ?_ | refine c_regionN rfl ?_ | refine c_ret ?_ | (refine kCond ?_; (first | refine c_cond_t rfl ?_ | refine c_cond_f rfl ?_ | ((first | refine c_cond_d rfl (fun h => ?_) (fun h => ?_) | refine c_cond_n rfl (fun h => ?_) (fun h => ?_)) <;> (try (first | contradiction | (exfalso; omega)))) | refine c_cond_nb rfl (fun h => ?_) (fun h => ?_) | refine c_cond rfl (fun h => ?_) (fun h => ?_))) | refine c_block ?_ | refine c_skip ?_ | refine c_exit ?_ | refine c_regionQN rfl rfl (by decide +kernel) ?_)) | apply s_stepQ | (refine kQG ?_; (first | refine s_gyesQ rfl rfl rfl ?_ | refine s_gnoQ rfl rfl rfl rfl rfl ?_ | ((first | refine s_splitQ_d rfl rfl (fun h => ?_) (fun h => ?_) | refine s_splitQ_n rfl rfl (fun h => ?_) (fun h => ?_)) <;> (try (first | contradiction | (exfalso; omega)))) | refine s_splitQ_nb rfl rfl (fun h => ?_) (fun h => ?_) | refine s_splitQ rfl rfl (fun h => ?_) (fun h => ?_))) | refine lQ_then ?_ | refine lQ_ends ?_ | (refine kE ?_; (first | refine e_then_r ?_ | refine e_block_r ?_ | refine e_then_n ?_ | refine e_then_x ?_ | refine e_block_n ?_ | refine e_block_x ?_ | refine e_block_y rfl ?_)) | refine l_ends ?_)
  all_goals try simp only [Int.toNat_natCast, eImg_dflt] at *
  · exact s_leave1 rfl rfl (fun w hw => ⟨ret_int (by unfold szI imgsLen; rw [if_pos (by omega)]), hw.below⟩)
  · have h1 := hs j
    have h2 := hm (j + 1) (by omega)
    exact s_leave1 rfl rfl (fun w hw => ⟨ret_int (by unfold szI at *; unfold imgsLen; rw [if_pos (by split at h <;> omega)]), hw.below⟩)
  · have h1 := hs j
    have h2 := hm (j + 1) (by omega)
    have h3 : szI (l.getD j DImg.zero).data.length (left - (l.length + sumTo (fun i => (l.getD i DImg.zero).data.length) j : Nat)) = left - (l.length + sumTo (fun i => (l.getD i DImg.zero).data.length) (j + 1) : Nat) := by
      unfold szI at *; split at h
      · omega
      · rw [if_neg (by assumption)]; omega
    exact e_round (j + 1) ⟨by omega, by rw [h3] at h; omega⟩ ⟨slook_to rfl (vint_to h3), rfl, (by repeat' first | exact trivial | refine ⟨rfl, ?_⟩)⟩ (fun w hw => hw) (by omega)
  · obtain rfl : j = l.length := by omega
    exact s_leave1 rfl rfl (fun w hw => ⟨ret_int (by unfold szI imgsLen; rw [if_neg (by omega)]), hw.below⟩)
theorem c_szRegionS (v : Value) (l : List (List DRect)) (left : Int) (w : World) (hv : RS eReg w v l) (hl : 0 ≤ left ∧ left ≤ 1048576) : SYields Tryz.prog 59 #[v, .int .i64 left] (.int .i64 (szI (regsLen l) left)) w := by
  obtain ⟨ds, hv⟩ := hv
  have hk := hv.row.len
  have hm := fun j => sumTo_mono (fun i => (l.getD i []).length) (i := j) (n := l.length)
  have hs := fun j => (show sumTo (fun i => (l.getD i []).length) (j + 1) = sumTo (fun i => (l.getD i []).length) j + (l.getD j []).length from rfl)
  (first | apply SYields.mk | apply SYieldsF.mk | skip); refine s_enter Tryz.func59 rfl Tryz.ntmps59 rfl ?_
  repeat' (first | exact rfl | (apply kO; (first | exact ov_pure rfl | (apply kOBin; (first | exact aBin)) | (apply kOCall; (first | (apply kCallF; (first | exact (ov_call rfl (fun w hw => c_szRegion _ (l.getD j []) _ w (eReg.keep (hv.rd _ (by omega)) (hw.cells rfl)) (by omega))))) | (apply kCallB; (first | exact aBlt | exact aLenR)))) | (apply kOLoad; (first | exact aLdF | exact aLdR)) | exact ov_fieldAddr rfl | (apply kOIdx; (first | exact aIdx)) | exact aRest | exact aNew | exact (ov_field1 (ft := 31) rfl rfl rfl rfl))) | (refine kN ?_; (first | (refine kStore ?_; (first | refine s_store1 _ rfl rfl gpA rfl (by rfl) ?_ | refine s_storeS _ rfl rfl gpA rfl rfl (by rfl) ?_ | refine s_storeS _ rfl rfl gpA rfl (ones_img oiA) (by rfl) ?_)) | refine s_boxS rfl rfl (fun b hb => ?_) | refine s_allocS rfl (fun b hb => ?_) | refine s_box1 rfl rfl rfl (fun b hb => ?_) | refine s_alloc1 rfl rfl (fun b hb => ?_) | refine s_buildSlice0 rfl (fun b hb => ?_) | refine s_buildSlice rfl rfl rfl rfl rfl (fun b hb => ?_) | apply s_step)) | (refine kG ?_; (first | refine s_gyes rfl rfl rfl ?_ | refine s_gno rfl rfl rfl rfl rfl ?_ | ((first | refine s_split_d rfl rfl (fun h => ?_) (fun h => ?_) | refine s_split_n rfl rfl (fun h => ?_) (fun h => ?_)) <;> (try (first | contradiction | (exfalso; omega)))) | refine s_split_nb rfl rfl (fun h => ?_) (fun h => ?_) | refine s_split rfl rfl (fun h => ?_) (fun h => ?_))) | refine l_then ?_ | (refine kC ?_; (first | (refine c_loopV (ι := Nat) (fun j => j ≤ l.length ∧ 0 ≤ left - (l.length + sumTo (fun i => (l.getD i []).length) j : Nat)) (fun j => [(1, .int .i64 (left - (l.length + sumTo (fun i => (l.getD i []).length) j : Nat))), (5, .int .i64 (j : Int))]) (fun _ => []) (fun j => l.length - j) 0 ⟨by omega, by simp [sumTo]; omega⟩ rfl (fun _ => rfl) ⟨slook_to rfl (vint_to (by simp [sumTo])), rfl, trivial⟩ (fun w hw => hw) (fun j hj => ?_)) | refine c_seq ?_ | refine c_regionN rfl ?_ | refine c_ret ?_ | (refine kCond ?_; (first | refine c_cond_t rfl ?_ | refine c_cond_f rfl ?_ | ((first | refine c_cond_d rfl (fun h => ?_) (fun h => ?_) | refine c_cond_n rfl (fun h => ?_) (fun h => ?_)) <;> (try (first | contradiction | (exfalso; omega)))) | refine c_cond_nb rfl (fun h => ?_) (fun h => ?_) | refine c_cond rfl (fun h => ?_) (fun h => ?_))) | refine c_block ?_ | refine c_skip ?_ | refine c_exit ?_ | refine c_regionQN rfl rfl (by decide +kernel) ?_)) | apply s_stepQ | (refine kQG ?_; (first | refine s_gyesQ rfl rfl rfl ?_ | refine s_gnoQ rfl rfl rfl rfl rfl ?_ | ((first | refine s_splitQ_d rfl rfl (fun h => ?_) (fun h => ?_) | refine s_splitQ_n rfl rfl (fun h => ?_) (fun h => ?_)) <;> (try (first | contradiction | (exfalso; omega)))) | refine s_splitQ_nb rfl rfl (fun h => ?_) (fun h => ?_) | refine s_splitQ rfl rfl (fun h => ?_) (fun h => ?_))) | refine lQ_then ?_ | refine lQ_ends ?_ | (refine kE ?_; (first | refine e_then_r ?_ | refine e_block_r ?_ | refine e_then_n ?_ | refine e_then_x ?_ | refine e_block_n ?_ | refine e_block_x ?_ | refine e_block_y rfl ?_)) | refine l_ends ?_)
  all_goals try simp only [Int.toNat_natCast, eReg_dflt] at *
  · exact s_leave1 rfl rfl (fun w hw => ⟨ret_int (by unfold szI regsLen; rw [if_pos (by omega)]), hw.below⟩)
  · have h1 := hs j
    have h2 := hm (j + 1) (by omega)
    exact s_leave1 rfl rfl (fun w hw => ⟨ret_int (by unfold szI at *; unfold regsLen; rw [if_pos (by split at h <;> omega)]), hw.below⟩)
  · have h1 := hs j
    have h2 := hm (j + 1) (by omega)
    have h3 : szI (l.getD j []).length (left - (l.length + sumTo (fun i => (l.getD i []).length) j : Nat)) = left - (l.length + sumTo (fun i => (l.getD i []).length) (j + 1) : Nat) := by
      unfold szI at *; split at h
      · omega
      · rw [if_neg (by assumption)]; omega
    exact e_round (j + 1) ⟨by omega, by rw [h3] at h; omega⟩ ⟨slook_to rfl (vint_to h3), rfl, (by repeat' first | exact trivial | refine ⟨rfl, ?_⟩)⟩ (fun w hw => hw) (by omega)
  · obtain rfl : j = l.length := by omega
    exact s_leave1 rfl rfl (fun w hw => ⟨ret_int (by unfold szI regsLen; rw [if_neg (by omega)]), hw.below⟩)
theorem c_szChain (c : DChain) (vb va vd vs : Value) (left : Int) (W : World) (hc : RCh W c vb va vd vs) (hl : 0 ≤ left ∧ left ≤ 1048576) : SYields Tryz.prog 19 #[vChain c vb va vd vs, .int .i64 left] (.int .i64 (szI (chainLen c) left)) W := by
  obtain ⟨r1, r2, r3, r4⟩ := hc
  have z1 := szI_or (imgsLen c.bufs) left
  have z2 := szI_or c.ages.length (szI (imgsLen c.bufs) left)
  have z3 := szI_or (regsLen c.dams) (szI c.ages.length (szI (imgsLen c.bufs) left))
  have z4 := szI_or (surfsLen c.scene.ss) (szI (regsLen c.dams) (szI c.ages.length (szI (imgsLen c.bufs) left)))
  have z5 := szI_or (chainLen c) left
  have hcl : chainLen c = imgsLen c.bufs + c.ages.length + regsLen c.dams + surfsLen c.scene.ss := rfl
  (first | apply SYields.mk | apply SYieldsF.mk | skip); refine s_enter Tryz.func19 rfl Tryz.ntmps19 rfl ?_
  repeat' (first | exact rfl | (apply kO; (first | exact ov_pure rfl | (apply kOBin; (first | exact aBin)) | (apply kOCall; (first | (apply kCallF; (first | exact (ov_call rfl (fun w hw => c_szImageS _ c.bufs _ w (r1.keep (hw.cells rfl)) (by omega))) | exact (ov_call rfl (fun w hw => c_szIntS _ c.ages _ w (r2.keep (hw.cells rfl)) (by omega))) | exact (ov_call rfl (fun w hw => c_szRegionS _ c.dams _ w (r3.keep (hw.cells rfl)) (by omega))) | exact (ov_call rfl (fun w hw => c_szScene c.scene _ _ w (r4.keep (hw.cells rfl)) (by omega))))) | (apply kCallB; (first | exact aBlt | exact aLenR)))) | (apply kOLoad; (first | exact aLdF | exact aLdR)) | exact ov_fieldAddr rfl | (apply kOIdx; (first | exact aIdx)) | exact aRest | exact aNew | exact (ov_field1 (ft := 31) rfl rfl rfl rfl))) | (refine kN ?_; (first | (refine kStore ?_; (first | refine s_store1 _ rfl rfl gpA rfl (by rfl) ?_ | refine s_storeS _ rfl rfl gpA rfl rfl (by rfl) ?_ | refine s_storeS _ rfl rfl gpA rfl (ones_img oiA) (by rfl) ?_)) | refine s_boxS rfl rfl (fun b hb => ?_) | refine s_allocS rfl (fun b hb => ?_) | refine s_box1 rfl rfl rfl (fun b hb => ?_) | refine s_alloc1 rfl rfl (fun b hb => ?_) | refine s_buildSlice0 rfl (fun b hb => ?_) | refine s_buildSlice rfl rfl rfl rfl rfl (fun b hb => ?_) | apply s_step)) | (refine kG ?_; (first | refine s_gyes rfl rfl rfl ?_ | refine s_gno rfl rfl rfl rfl rfl ?_ | ((first | refine s_split_d rfl rfl (fun h => ?_) (fun h => ?_) | refine s_split_n rfl rfl (fun h => ?_) (fun h => ?_)) <;> (try (first | contradiction | (exfalso; omega)))) | refine s_split_nb rfl rfl (fun h => ?_) (fun h => ?_) | refine s_split rfl rfl (fun h => ?_) (fun h => ?_))) | refine l_then ?_ | (refine kC ?_; (first | refine c_seq ?_ | refine c_regionN rfl ?_ | refine c_ret ?_ | (refine kCond ?_; (first | refine c_cond_t rfl ?_ | refine c_cond_f rfl ?_ | ((first | refine c_cond_d rfl (fun h => ?_) (fun h => ?_) | refine c_cond_n rfl (fun h => ?_) (fun h => ?_)) <;> (try (first | contradiction | (exfalso; omega)))) | refine c_cond_nb rfl (fun h => ?_) (fun h => ?_) | refine c_cond rfl (fun h => ?_) (fun h => ?_))) | refine c_block ?_ | refine c_skip ?_ | refine c_exit ?_ | refine c_regionQN rfl rfl (by decide +kernel) ?_)) | apply s_stepQ | (refine kQG ?_; (first | refine s_gyesQ rfl rfl rfl ?_ | refine s_gnoQ rfl rfl rfl rfl rfl ?_ | ((first | refine s_splitQ_d rfl rfl (fun h => ?_) (fun h => ?_) | refine s_splitQ_n rfl rfl (fun h => ?_) (fun h => ?_)) <;> (try (first | contradiction | (exfalso; omega)))) | refine s_splitQ_nb rfl rfl (fun h => ?_) (fun h => ?_) | refine s_splitQ rfl rfl (fun h => ?_) (fun h => ?_))) | refine lQ_then ?_ | refine lQ_ends ?_ | (refine kE ?_; (first | refine e_then_r ?_ | refine e_block_r ?_ | refine e_then_n ?_ | refine e_then_x ?_ | refine e_block_n ?_ | refine e_block_x ?_ | refine e_block_y rfl ?_)) | refine l_ends ?_)
  all_goals refine s_leave1 rfl rfl (fun w hw => ⟨?_, hw.below⟩)
  all_goals (refine ret_int ?_; omega)
theorem c_eqImageS (u v : Value) (k l : List DImg) (w : World) (hu : RS eImg w u k) (hv : RS eImg w v l) : SYields Tryz.prog 70 #[u, v] (.bool (decide (k = l))) w := by
  obtain ⟨ds, hu⟩ := hu
  obtain ⟨es, hv⟩ := hv
  have hk := hu.row.len
  have hl := hv.row.len
  (first | apply SYields.mk | apply SYieldsF.mk | skip); refine s_enter Tryz.func70 rfl Tryz.ntmps70 rfl ?_
  repeat' (first | exact rfl | (apply kO; (first | exact ov_pure rfl | (apply kOBin; (first | exact aBin)) | (apply kOCall; (first | (apply kCallF; (first | exact (ov_call rfl (fun w hw => c_eqImage (k.getD j DImg.zero) (l.getD j DImg.zero) _ _ w (RInts.keep (hu.rd _ (by omega)) (hw.cells rfl)) (RInts.keep (hv.rd _ (by omega)) (hw.cells rfl)))))) | (apply kCallB; (first | exact aBlt | exact (ov_lenR (fun w hw => hu.row.keep (hw.cells rfl)) rfl) | exact (ov_lenR (fun w hw => hv.row.keep (hw.cells rfl)) rfl) | exact aLenR)))) | (apply kOLoad; (first | exact (ov_ldRZ (fun w hw => hu.row.keep (hw.cells rfl)) rfl rfl (by omega) rfl) | exact (ov_ldRZ (fun w hw => hv.row.keep (hw.cells rfl)) rfl rfl (by omega) rfl) | exact aLdF | exact aLdR)) | exact ov_fieldAddr rfl | (apply kOIdx; (first | exact (ov_idxR (fun w hw => hu.row.keep (hw.cells rfl)) rfl rfl (by omega)) | exact (ov_idxR (fun w hw => hv.row.keep (hw.cells rfl)) rfl rfl (by omega)) | exact aIdx)) | exact aRest | exact aNew | exact (ov_field1 (ft := 31) rfl rfl rfl rfl))) | (refine kN ?_; (first | (refine kStore ?_; (first | refine s_store1 _ rfl rfl gpA rfl (by rfl) ?_ | refine s_storeS _ rfl rfl gpA rfl rfl (by rfl) ?_ | refine s_storeS _ rfl rfl gpA rfl (ones_img oiA) (by rfl) ?_)) | refine s_boxS rfl rfl (fun b hb => ?_) | refine s_allocS rfl (fun b hb => ?_) | refine s_box1 rfl rfl rfl (fun b hb => ?_) | refine s_alloc1 rfl rfl (fun b hb => ?_) | refine s_buildSlice0 rfl (fun b hb => ?_) | refine s_buildSlice rfl rfl rfl rfl rfl (fun b hb => ?_) | apply s_step)) | (refine kG ?_; (first | refine s_gyes rfl rfl rfl ?_ | refine s_gno rfl rfl rfl rfl rfl ?_ | ((first | refine s_split_d rfl rfl (fun h => ?_) (fun h => ?_) | refine s_split_n rfl rfl (fun h => ?_) (fun h => ?_)) <;> (try (first | contradiction | (exfalso; omega)))) | refine s_split_nb rfl rfl (fun h => ?_) (fun h => ?_) | refine s_split rfl rfl (fun h => ?_) (fun h => ?_))) | refine l_then ?_ | (refine kC ?_; (first | (refine c_loopV (ι := Nat) (fun j => j ≤ k.length ∧ eqTo k l DImg.zero j) (fun j => [(5, .int .i64 (j : Int))]) (fun _ => []) (fun j => k.length - j) 0 ⟨by omega, eqTo_zero _ _ _⟩ rfl (fun _ => rfl) ⟨rfl, trivial⟩ (fun w hw => hw) (fun j hj => ?_)) | refine c_seq ?_ | refine c_regionN rfl ?_ | refine c_ret ?_ | (refine kCond ?_; (first | refine c_cond_t rfl ?_ | refine c_cond_f rfl ?_ | ((first | refine c_cond_d rfl (fun h => ?_) (fun h => ?_) | refine c_cond_n rfl (fun h => ?_) (fun h => ?_)) <;> (try (first | contradiction | (exfalso; omega)))) | refine c_cond_nb rfl (fun h => ?_) (fun h => ?_) | refine c_cond rfl (fun h => ?_) (fun h => ?_))) | refine c_block ?_ | refine c_skip ?_ | refine c_exit ?_ | refine c_regionQN rfl rfl (by decide +kernel) ?_)) | apply s_stepQ | (refine kQG ?_; (first | refine s_gyesQ rfl rfl rfl ?_ | refine s_gnoQ rfl rfl rfl rfl rfl ?_ | ((first | refine s_splitQ_d rfl rfl (fun h => ?_) (fun h => ?_) | refine s_splitQ_n rfl rfl (fun h => ?_) (fun h => ?_)) <;> (try (first | contradiction | (exfalso; omega)))) | refine s_splitQ_nb rfl rfl (fun h => ?_) (fun h => ?_) | refine s_splitQ rfl rfl (fun h => ?_) (fun h => ?_))) | refine lQ_then ?_ | refine lQ_ends ?_ | (refine kE ?_; (first | refine e_then_r ?_ | refine e_block_r ?_ | refine e_then_n ?_ | refine e_then_x ?_ | refine e_block_n ?_ | refine e_block_x ?_ | refine e_block_y rfl ?_)) | refine l_ends ?_)
  all_goals try simp only [Int.toNat_natCast, eImg_dflt] at *
  · exact s_leave1 rfl rfl (fun w hw => ⟨ret_false (ne_of_len (by omega)), hw.below⟩)
  · exact s_leave1 rfl rfl (fun w hw => ⟨ret_false (fun e => by subst e; contradiction), hw.below⟩)
  · exact e_round (j + 1) ⟨by omega, eqTo_next hj.2 (by assumption)⟩ ⟨rfl, (by repeat' first | exact trivial | refine ⟨rfl, ?_⟩)⟩ (fun w hw => hw) (by omega)
  · exact s_leave1 rfl rfl (fun w hw => ⟨ret_true (list_eq_of_getD DImg.zero (by omega) (fun i hi => hj.2 i (by omega))), hw.below⟩)
theorem c_eqRegionS (u v : Value) (k l : List (List DRect)) (w : World) (hu : RS eReg w u k) (hv : RS eReg w v l) : SYields Tryz.prog 72 #[u, v] (.bool (decide (k = l))) w := by
  obtain ⟨ds, hu⟩ := hu
  obtain ⟨es, hv⟩ := hv
  have hk := hu.row.len
  have hl := hv.row.len
  (first | apply SYields.mk | apply SYieldsF.mk | skip); refine s_enter Tryz.func72 rfl Tryz.ntmps72 rfl ?_
  repeat' (first | exact rfl | (apply kO; (first | exact ov_pure rfl | (apply kOBin; (first | exact aBin)) | (apply kOCall; (first | (apply kCallF; (first | exact (ov_call rfl (fun w hw => c_eqRegion _ _ (k.getD j []) (l.getD j []) w (eReg.keep (hu.rd _ (by omega)) (hw.cells rfl)) (eReg.keep (hv.rd _ (by omega)) (hw.cells rfl)))))) | (apply kCallB; (first | exact aBlt | exact (ov_lenR (fun w hw => hu.row.keep (hw.cells rfl)) rfl) | exact (ov_lenR (fun w hw => hv.row.keep (hw.cells rfl)) rfl) | exact aLenR)))) | (apply kOLoad; (first | exact (ov_ldRZ (fun w hw => hu.row.keep (hw.cells rfl)) rfl rfl (by omega) rfl) | exact (ov_ldRZ (fun w hw => hv.row.keep (hw.cells rfl)) rfl rfl (by omega) rfl) | exact aLdF | exact aLdR)) | exact ov_fieldAddr rfl | (apply kOIdx; (first | exact (ov_idxR (fun w hw => hu.row.keep (hw.cells rfl)) rfl rfl (by omega)) | exact (ov_idxR (fun w hw => hv.row.keep (hw.cells rfl)) rfl rfl (by omega)) | exact aIdx)) | exact aRest | exact aNew | exact (ov_field1 (ft := 31) rfl rfl rfl rfl))) | (refine kN ?_; (first | (refine kStore ?_; (first | refine s_store1 _ rfl rfl gpA rfl (by rfl) ?_ | refine s_storeS _ rfl rfl gpA rfl rfl (by rfl) ?_ | refine s_storeS _ rfl rfl gpA rfl (ones_img oiA) (by rfl) ?_)) | refine s_boxS rfl rfl (fun b hb => ?_) | refine s_allocS rfl (fun b hb => ?_) | refine s_box1 rfl rfl rfl (fun b hb => ?_) | refine s_alloc1 rfl rfl (fun b hb => ?_) | refine s_buildSlice0 rfl (fun b hb => ?_) | refine s_buildSlice rfl rfl rfl rfl rfl (fun b hb => ?_) | apply s_step)) | (refine kG ?_; (first | refine s_gyes rfl rfl rfl ?_ | refine s_gno rfl rfl rfl rfl rfl ?_ | ((first | refine s_split_d rfl rfl (fun h => ?_) (fun h => ?_) | refine s_split_n rfl rfl (fun h => ?_) (fun h => ?_)) <;> (try (first | contradiction | (exfalso; omega)))) | refine s_split_nb rfl rfl (fun h => ?_) (fun h => ?_) | refine s_split rfl rfl (fun h => ?_) (fun h => ?_))) | refine l_then ?_ | (refine kC ?_; (first | (refine c_loopV (ι := Nat) (fun j => j ≤ k.length ∧ eqTo k l [] j) (fun j => [(5, .int .i64 (j : Int))]) (fun _ => []) (fun j => k.length - j) 0 ⟨by omega, eqTo_zero _ _ _⟩ rfl (fun _ => rfl) ⟨rfl, trivial⟩ (fun w hw => hw) (fun j hj => ?_)) | refine c_seq ?_ | refine c_regionN rfl ?_ | refine c_ret ?_ | (refine kCond ?_; (first | refine c_cond_t rfl ?_ | refine c_cond_f rfl ?_ | ((first | refine c_cond_d rfl (fun h => ?_) (fun h => ?_) | refine c_cond_n rfl (fun h => ?_) (fun h => ?_)) <;> (try (first | contradiction | (exfalso; omega)))) | refine c_cond_nb rfl (fun h => ?_) (fun h => ?_) | refine c_cond rfl (fun h => ?_) (fun h => ?_))) | refine c_block ?_ | refine c_skip ?_ | refine c_exit ?_ | refine c_regionQN rfl rfl (by decide +kernel) ?_)) | apply s_stepQ | (refine kQG ?_; (first | refine s_gyesQ rfl rfl rfl ?_ | refine s_gnoQ rfl rfl rfl rfl rfl ?_ | ((first | refine s_splitQ_d rfl rfl (fun h => ?_) (fun h => ?_) | refine s_splitQ_n rfl rfl (fun h => ?_) (fun h => ?_)) <;> (try (first | contradiction | (exfalso; omega)))) | refine s_splitQ_nb rfl rfl (fun h => ?_) (fun h => ?_) | refine s_splitQ rfl rfl (fun h => ?_) (fun h => ?_))) | refine lQ_then ?_ | refine lQ_ends ?_ | (refine kE ?_; (first | refine e_then_r ?_ | refine e_block_r ?_ | refine e_then_n ?_ | refine e_then_x ?_ | refine e_block_n ?_ | refine e_block_x ?_ | refine e_block_y rfl ?_)) | refine l_ends ?_)
  all_goals try simp only [Int.toNat_natCast, eReg_dflt] at *
  · exact s_leave1 rfl rfl (fun w hw => ⟨ret_false (ne_of_len (by omega)), hw.below⟩)
  · exact s_leave1 rfl rfl (fun w hw => ⟨ret_false (fun e => by subst e; contradiction), hw.below⟩)
  · exact e_round (j + 1) ⟨by omega, eqTo_next hj.2 (by assumption)⟩ ⟨rfl, (by repeat' first | exact trivial | refine ⟨rfl, ?_⟩)⟩ (fun w hw => hw) (by omega)
  · exact s_leave1 rfl rfl (fun w hw => ⟨ret_true (list_eq_of_getD [] (by omega) (fun i hi => hj.2 i (by omega))), hw.below⟩)
theorem DChain.eq {a b : DChain} (h1 : a.bufs = b.bufs) (h2 : a.ages = b.ages) (h3 : a.dams = b.dams) (h4 : a.scene = b.scene) : a = b := by cases a; cases b; simp_all
theorem c_eqChain (c e : DChain) (b1 a1 d1 s1 b2 a2 d2 s2 : Value) (W : World) (h1 : RCh W c b1 a1 d1 s1) (h2 : RCh W e b2 a2 d2 s2) : SYields Tryz.prog 25 #[vChain c b1 a1 d1 s1, vChain e b2 a2 d2 s2] (.bool (decide (c = e))) W := by
  obtain ⟨p1, p2, p3, p4⟩ := h1
  obtain ⟨q1, q2, q3, q4⟩ := h2
  (first | apply SYields.mk | apply SYieldsF.mk | skip); refine s_enter Tryz.func25 rfl Tryz.ntmps25 rfl ?_
  repeat' (first | exact rfl | (apply kO; (first | exact ov_pure rfl | (apply kOBin; (first | exact aBin)) | (apply kOCall; (first | (apply kCallF; (first | exact (ov_call rfl (fun w hw => c_eqImageS _ _ c.bufs e.bufs w (p1.keep (hw.cells rfl)) (q1.keep (hw.cells rfl)))) | exact (ov_call rfl (fun w hw => c_eqIntS _ _ c.ages e.ages w (p2.keep (hw.cells rfl)) (q2.keep (hw.cells rfl)))) | exact (ov_call rfl (fun w hw => c_eqRegionS _ _ c.dams e.dams w (p3.keep (hw.cells rfl)) (q3.keep (hw.cells rfl)))) | exact (ov_call rfl (fun w hw => c_eqScene c.scene e.scene _ _ w (p4.keep (hw.cells rfl)) (q4.keep (hw.cells rfl)))))) | (apply kCallB; (first | exact aBlt | exact aLenR)))) | (apply kOLoad; (first | exact aLdF | exact aLdR)) | exact ov_fieldAddr rfl | (apply kOIdx; (first | exact aIdx)) | exact aRest | exact aNew | exact (ov_field1 (ft := 31) rfl rfl rfl rfl))) | (refine kN ?_; (first | (refine kStore ?_; (first | refine s_store1 _ rfl rfl gpA rfl (by rfl) ?_ | refine s_storeS _ rfl rfl gpA rfl rfl (by rfl) ?_ | refine s_storeS _ rfl rfl gpA rfl (ones_img oiA) (by rfl) ?_)) | refine s_boxS rfl rfl (fun b hb => ?_) | refine s_allocS rfl (fun b hb => ?_) | refine s_box1 rfl rfl rfl (fun b hb => ?_) | refine s_alloc1 rfl rfl (fun b hb => ?_) | refine s_buildSlice0 rfl (fun b hb => ?_) | refine s_buildSlice rfl rfl rfl rfl rfl (fun b hb => ?_) | apply s_step)) | (refine kG ?_; (first | refine s_gyes rfl rfl rfl ?_ | refine s_gno rfl rfl rfl rfl rfl ?_ | ((first | refine s_split_d rfl rfl (fun h => ?_) (fun h => ?_) | refine s_split_n rfl rfl (fun h => ?_) (fun h => ?_)) <;> (try (first | contradiction | (exfalso; omega)))) | refine s_split_nb rfl rfl (fun h => ?_) (fun h => ?_) | refine s_split rfl rfl (fun h => ?_) (fun h => ?_))) | refine l_then ?_ | (refine kC ?_; (first | refine c_seq ?_ | refine c_regionN rfl ?_ | refine c_ret ?_ | (refine kCond ?_; (first | refine c_cond_t rfl ?_ | refine c_cond_f rfl ?_ | ((first | refine c_cond_d rfl (fun h => ?_) (fun h => ?_) | refine c_cond_n rfl (fun h => ?_) (fun h => ?_)) <;> (try (first | contradiction | (exfalso; omega)))) | refine c_cond_nb rfl (fun h => ?_) (fun h => ?_) | refine c_cond rfl (fun h => ?_) (fun h => ?_))) | refine c_block ?_ | refine c_skip ?_ | refine c_exit ?_ | refine c_regionQN rfl rfl (by decide +kernel) ?_)) | apply s_stepQ | (refine kQG ?_; (first | refine s_gyesQ rfl rfl rfl ?_ | refine s_gnoQ rfl rfl rfl rfl rfl ?_ | ((first | refine s_splitQ_d rfl rfl (fun h => ?_) (fun h => ?_) | refine s_splitQ_n rfl rfl (fun h => ?_) (fun h => ?_)) <;> (try (first | contradiction | (exfalso; omega)))) | refine s_splitQ_nb rfl rfl (fun h => ?_) (fun h => ?_) | refine s_splitQ rfl rfl (fun h => ?_) (fun h => ?_))) | refine lQ_then ?_ | refine lQ_ends ?_ | (refine kE ?_; (first | refine e_then_r ?_ | refine e_block_r ?_ | refine e_then_n ?_ | refine e_then_x ?_ | refine e_block_n ?_ | refine e_block_x ?_ | refine e_block_y rfl ?_)) | refine l_ends ?_)
  all_goals refine s_leave1 rfl rfl (fun w hw => ⟨?_, hw.below⟩)
  all_goals first | exact ret_false (fun e => by subst e; contradiction) | exact ret_true (DChain.eq (by assumption) (by assumption) (by assumption) (by assumption))
end Go.Proofs.YtakijgpoaeggnaaGreat
