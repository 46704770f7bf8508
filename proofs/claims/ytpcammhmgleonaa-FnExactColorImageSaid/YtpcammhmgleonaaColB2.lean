/-
  Texts that the law stands on, part 2: K6, K16, K19, KW.
-/
import Derived.Test.YtpcammhmgleonaaColB1
set_option linter.unusedVariables false
namespace Go.Proofs.Ytpcammhmgleonaa
open Go Sx
attribute [local irreducible] Exit.then Exit.inBlock bodyPost
theorem c_szImage (i : DImg) (d : Value) (left : Int) (w : World) (hd : RInts w d i.data) (hl : 0 ≤ left ∧ left ≤ 1048576) : SYields Try.prog 22 #[vImg i d, .int .i64 left] (.int .i64 (szI i.data.length left)) w := by
  have hk := hd.len
  (first | apply SYields.mk | apply SYieldsF.mk | skip); refine s_enter Try.func22 rfl Try.ntmps22 rfl ?_
  repeat' (first | exact rfl | (apply kO; (first | exact ov_pure rfl | (apply kOBin; (first | exact aBin)) | (apply kOCall; (first | (apply kCallF; (first | exact (ov_call rfl (fun w hw => c_szIntS _ _ _ w (riA hw) (by omega))))) | (apply kCallB; (first | exact aBlt | exact aLenR)))) | (apply kOLoad; (first | exact aLdF | exact aLdR)) | exact ov_fieldAddr rfl | (apply kOIdx; (first | exact aIdx)) | exact aRest | exact aNew | exact (ov_field1 (ft := 37) rfl rfl rfl rfl))) | (refine kN ?_; (first | (refine kStore ?_; (first | refine s_store1 _ rfl rfl gpA rfl (by rfl) ?_ | refine s_storeS _ rfl rfl gpA rfl rfl (by rfl) ?_ | refine s_storeS _ rfl rfl gpA rfl (ones_img oiA) (by rfl) ?_)) | refine s_boxS rfl rfl (fun b hb => ?_) | refine s_allocS rfl (fun b hb => ?_) | refine s_box1 rfl rfl rfl (fun b hb => ?_) | refine s_alloc1 rfl rfl (fun b hb => ?_) | refine s_buildSlice0 rfl (fun b hb => ?_) | refine s_buildSlice rfl rfl rfl rfl rfl (fun b hb => ?_) | apply s_step)) | (refine kG ?_; (first | refine s_gyes rfl rfl rfl ?_ | refine s_gno rfl rfl rfl rfl rfl ?_ | ((first | refine s_split_d rfl rfl (fun h => ?_) (fun h => ?_) | refine s_split_n rfl rfl (fun h => ?_) (fun h => ?_)) <;> (try (first | contradiction | (exfalso; omega)))) | refine s_split_nb rfl rfl (fun h => ?_) (fun h => ?_) | refine s_split rfl rfl (fun h => ?_) (fun h => ?_))) | refine l_then ?_ | (refine kC ?_; (first | refine c_seq ?_ | refine c_regionN rfl ?_ | refine c_ret ?_ | (refine kCond ?_; (first | refine c_cond_t rfl ?_ | refine c_cond_f rfl ?_ | ((first | refine c_cond_d rfl (fun h => ?_) (fun h => ?_) | refine c_cond_n rfl (fun h => ?_) (fun h => ?_)) <;> (try (first | contradiction | (exfalso; omega)))) | refine c_cond_nb rfl (fun h => ?_) (fun h => ?_) | refine c_cond rfl (fun h => ?_) (fun h => ?_))) | refine c_block ?_ | refine c_skip ?_ | refine c_exit ?_ | refine c_regionQN rfl rfl (by decide +kernel) ?_)) | apply s_stepQ | (refine kQG ?_; (first | refine s_gyesQ rfl rfl rfl ?_ | refine s_gnoQ rfl rfl rfl rfl rfl ?_ | ((first | refine s_splitQ_d rfl rfl (fun h => ?_) (fun h => ?_) | refine s_splitQ_n rfl rfl (fun h => ?_) (fun h => ?_)) <;> (try (first | contradiction | (exfalso; omega)))) | refine s_splitQ_nb rfl rfl (fun h => ?_) (fun h => ?_) | refine s_splitQ rfl rfl (fun h => ?_) (fun h => ?_))) | refine lQ_then ?_ | refine lQ_ends ?_ | (refine kE ?_; (first | refine e_then_r ?_ | refine e_block_r ?_ | refine e_then_n ?_ | refine e_then_x ?_ | refine e_block_n ?_ | refine e_block_x ?_ | refine e_block_y rfl ?_)) | refine l_ends ?_)
  all_goals refine s_leave1 rfl rfl (fun w hw => ⟨?_, hw.below⟩)
  all_goals (refine ret_int ?_; unfold szI at *; (repeat' split at *) <;> omega)
theorem c_toImage (i : DImg) (d : Value) (w : World) (hd : RInts w d i.data) (hl : i.data.length ≤ 1048576) : SYieldsF Try.prog 25 #[vImg i d] (fun u H => OImg u i H) w := by
  have hd' := hd.form
  obtain ⟨_, _, rfl⟩ := hd'
  (first | apply SYields.mk | apply SYieldsF.mk | skip); refine s_enter Try.func25 rfl Try.ntmps25 rfl ?_
  repeat' (first | exact rfl | (apply kO; (first | exact ov_pure rfl | (apply kOBin; (first | exact aBin)) | (apply kOCall; (first | (apply kCallB; (first | exact aBlt | exact aLenR)))) | (apply kOLoad; (first | exact aLdF | exact aLdR)) | exact ov_fieldAddr rfl | (apply kOIdx; (first | exact aIdx)) | exact aRest | exact aNew | exact (ov_field1 (ft := 37) rfl rfl rfl rfl))) | (refine kN ?_; (first | (refine kCall ?_; (first | (refine kWFunc ?_; (refine s_callF (fun u H => OInts 3 u i.data H) rfl (fun w hw => c_toIntS _ _ w (riA hw) hl) rfl (fun u H hu => ?_); obtain ⟨_, _, rfl⟩ := hu.form)) | apply s_step)) | (refine kStore ?_; (first | refine s_store1 _ rfl rfl gpA rfl (by rfl) ?_ | refine s_storeS _ rfl rfl gpA rfl rfl (by rfl) ?_ | refine s_storeS _ rfl rfl gpA rfl (ones_img oiA) (by rfl) ?_)) | refine s_boxS rfl rfl (fun b hb => ?_) | refine s_allocS rfl (fun b hb => ?_) | refine s_box1 rfl rfl rfl (fun b hb => ?_) | refine s_alloc1 rfl rfl (fun b hb => ?_) | refine s_buildSlice0 rfl (fun b hb => ?_) | refine s_buildSlice rfl rfl rfl rfl rfl (fun b hb => ?_) | apply s_step)) | (refine kG ?_; (first | refine s_gyes rfl rfl rfl ?_ | refine s_gno rfl rfl rfl rfl rfl ?_ | ((first | refine s_split_d rfl rfl (fun h => ?_) (fun h => ?_) | refine s_split_n rfl rfl (fun h => ?_) (fun h => ?_)) <;> (try (first | contradiction | (exfalso; omega)))) | refine s_split_nb rfl rfl (fun h => ?_) (fun h => ?_) | refine s_split rfl rfl (fun h => ?_) (fun h => ?_))) | refine l_then ?_ | (refine kC ?_; (first | refine c_seq ?_ | refine c_regionN rfl ?_ | refine c_ret ?_ | (refine kCond ?_; (first | refine c_cond_t rfl ?_ | refine c_cond_f rfl ?_ | ((first | refine c_cond_d rfl (fun h => ?_) (fun h => ?_) | refine c_cond_n rfl (fun h => ?_) (fun h => ?_)) <;> (try (first | contradiction | (exfalso; omega)))) | refine c_cond_nb rfl (fun h => ?_) (fun h => ?_) | refine c_cond rfl (fun h => ?_) (fun h => ?_))) | refine c_block ?_ | refine c_skip ?_ | refine c_exit ?_ | refine c_regionQN rfl rfl (by decide +kernel) ?_)) | apply s_stepQ | (refine kQG ?_; (first | refine s_gyesQ rfl rfl rfl ?_ | refine s_gnoQ rfl rfl rfl rfl rfl ?_ | ((first | refine s_splitQ_d rfl rfl (fun h => ?_) (fun h => ?_) | refine s_splitQ_n rfl rfl (fun h => ?_) (fun h => ?_)) <;> (try (first | contradiction | (exfalso; omega)))) | refine s_splitQ_nb rfl rfl (fun h => ?_) (fun h => ?_) | refine s_splitQ rfl rfl (fun h => ?_) (fun h => ?_))) | refine lQ_then ?_ | refine lQ_ends ?_ | (refine kE ?_; (first | refine e_then_r ?_ | refine e_block_r ?_ | refine e_then_n ?_ | refine e_then_x ?_ | refine e_block_n ?_ | refine e_block_x ?_ | refine e_block_y rfl ?_)) | refine l_ends ?_)
  all_goals (refine kE ?_; refine s_leaveSF rfl rfl rfl fwA (fun w hw => ?_))
  exact ⟨_, _, rfl, ⟨_, rfl, by assumption⟩, hw.toFresh (i := 0) rfl⟩
theorem c_eqImage (a b : DImg) (d e : Value) (w : World) (hd : RInts w d a.data) (he : RInts w e b.data) : SYields Try.prog 27 #[vImg a d, vImg b e] (.bool (decide (a = b))) w := by
  (first | apply SYields.mk | apply SYieldsF.mk | skip); refine s_enter Try.func27 rfl Try.ntmps27 rfl ?_
  repeat' (first | exact rfl | (apply kO; (first | exact ov_pure rfl | (apply kOBin; (first | exact aBin)) | (apply kOCall; (first | (apply kCallF; (first | exact (ov_call rfl (fun w hw => c_eqIntS _ _ _ _ w (riA hw) (riA hw))))) | (apply kCallB; (first | exact aBlt | exact aLenR)))) | (apply kOLoad; (first | exact aLdF | exact aLdR)) | exact ov_fieldAddr rfl | (apply kOIdx; (first | exact aIdx)) | exact aRest | exact aNew | exact (ov_field1 (ft := 37) rfl rfl rfl rfl))) | (refine kN ?_; (first | (refine kStore ?_; (first | refine s_store1 _ rfl rfl gpA rfl (by rfl) ?_ | refine s_storeS _ rfl rfl gpA rfl rfl (by rfl) ?_ | refine s_storeS _ rfl rfl gpA rfl (ones_img oiA) (by rfl) ?_)) | refine s_boxS rfl rfl (fun b hb => ?_) | refine s_allocS rfl (fun b hb => ?_) | refine s_box1 rfl rfl rfl (fun b hb => ?_) | refine s_alloc1 rfl rfl (fun b hb => ?_) | refine s_buildSlice0 rfl (fun b hb => ?_) | refine s_buildSlice rfl rfl rfl rfl rfl (fun b hb => ?_) | apply s_step)) | (refine kG ?_; (first | refine s_gyes rfl rfl rfl ?_ | refine s_gno rfl rfl rfl rfl rfl ?_ | ((first | refine s_split_d rfl rfl (fun h => ?_) (fun h => ?_) | refine s_split_n rfl rfl (fun h => ?_) (fun h => ?_)) <;> (try (first | contradiction | (exfalso; omega)))) | refine s_split_nb rfl rfl (fun h => ?_) (fun h => ?_) | refine s_split rfl rfl (fun h => ?_) (fun h => ?_))) | refine l_then ?_ | (refine kC ?_; (first | refine c_seq ?_ | refine c_regionN rfl ?_ | refine c_ret ?_ | (refine kCond ?_; (first | refine c_cond_t rfl ?_ | refine c_cond_f rfl ?_ | ((first | refine c_cond_d rfl (fun h => ?_) (fun h => ?_) | refine c_cond_n rfl (fun h => ?_) (fun h => ?_)) <;> (try (first | contradiction | (exfalso; omega)))) | refine c_cond_nb rfl (fun h => ?_) (fun h => ?_) | refine c_cond rfl (fun h => ?_) (fun h => ?_))) | refine c_block ?_ | refine c_skip ?_ | refine c_exit ?_ | refine c_regionQN rfl rfl (by decide +kernel) ?_)) | apply s_stepQ | (refine kQG ?_; (first | refine s_gyesQ rfl rfl rfl ?_ | refine s_gnoQ rfl rfl rfl rfl rfl ?_ | ((first | refine s_splitQ_d rfl rfl (fun h => ?_) (fun h => ?_) | refine s_splitQ_n rfl rfl (fun h => ?_) (fun h => ?_)) <;> (try (first | contradiction | (exfalso; omega)))) | refine s_splitQ_nb rfl rfl (fun h => ?_) (fun h => ?_) | refine s_splitQ rfl rfl (fun h => ?_) (fun h => ?_))) | refine lQ_then ?_ | refine lQ_ends ?_ | (refine kE ?_; (first | refine e_then_r ?_ | refine e_block_r ?_ | refine e_then_n ?_ | refine e_then_x ?_ | refine e_block_n ?_ | refine e_block_x ?_ | refine e_block_y rfl ?_)) | refine l_ends ?_)
  all_goals refine s_leave1 rfl rfl (fun w hw => ⟨?_, hw.below⟩)
  all_goals first | exact ret_false (fun e => by subst e; contradiction) | exact ret_true (DImg.eq (by omega) (by omega) (by assumption))
theorem c_markIntS (v : Value) (l : List Int) (H : SPiece) (k : Int) (w : World) (hv : OInts 3 v l H) (hH : Holds w H) (hn : H.keys.Nodup) (hk : 0 ≤ k ∧ k + l.length ≤ 4611686018427387904) :
    SYieldsG Try.prog 81 #[v, .int .i64 k] H (fun u H' F => u = .int .i64 (k + l.length) ∧ OInts 3 v (iota k l.length) H' ∧ F = []) w := by
  have hlen := (OVec.le hv)
  unfold maxLen at hlen
  have hil := iota_length k l.length
  have hml := markTo_length l k
  unfold OInts at hv
  generalize hx : ivals l = xs at hv
  generalize hnn : l.length = nn at hv
  cases hv with
  | nil =>
    have hl0 : l = [] := List.eq_nil_of_length_eq_zero hnn
    subst hl0
    refine SYieldsG.mk (s_enterM Try.func81 rfl Try.ntmps81 rfl hH hn ?_)
    repeat' (first | exact rfl | (apply kO; (first | exact ov_pure rfl | (apply kOBin; (first | exact aBin)) | (apply kOCall; (first | (apply kCallB; (first | exact aBlt | exact aLenR)))) | (apply kOLoad; (first | exact aLdF | exact aLdR)) | exact ov_fieldAddr rfl | (apply kOIdx; (first | exact aIdx)) | exact aRest | exact aNew | exact (ov_field1 (ft := 37) rfl rfl rfl rfl))) | (refine kN ?_; (first | (refine kStore ?_; (first | refine s_store1 _ rfl rfl gpA rfl (by rfl) ?_ | refine s_storeS _ rfl rfl gpA rfl rfl (by rfl) ?_ | refine s_storeS _ rfl rfl gpA rfl (ones_img oiA) (by rfl) ?_)) | refine s_boxS rfl rfl (fun b hb => ?_) | refine s_allocS rfl (fun b hb => ?_) | refine s_box1 rfl rfl rfl (fun b hb => ?_) | refine s_alloc1 rfl rfl (fun b hb => ?_) | refine s_buildSlice0 rfl (fun b hb => ?_) | refine s_buildSlice rfl rfl rfl rfl rfl (fun b hb => ?_) | apply s_step)) | (refine kG ?_; (first | refine s_gyes rfl rfl rfl ?_ | refine s_gno rfl rfl rfl rfl rfl ?_ | ((first | refine s_split_d rfl rfl (fun h => ?_) (fun h => ?_) | refine s_split_n rfl rfl (fun h => ?_) (fun h => ?_)) <;> (try (first | contradiction | (exfalso; omega)))) | refine s_split_nb rfl rfl (fun h => ?_) (fun h => ?_) | refine s_split rfl rfl (fun h => ?_) (fun h => ?_))) | refine l_then ?_ | (refine kC ?_; (first | (refine c_loopV (ι := Unit) (fun _ => True) (fun _ => [(1, .int .i64 k), (5, .int .i64 0)]) (fun _ => [[]]) (fun _ => 0) () trivial rfl (fun _ => rfl) (by repeat' first | exact trivial | refine ⟨rfl, ?_⟩) (fun w hw => by simpa using hw) (fun j hj => ?_)) | refine c_seq ?_ | refine c_regionN rfl ?_ | refine c_ret ?_ | (refine kCond ?_; (first | refine c_cond_t rfl ?_ | refine c_cond_f rfl ?_ | ((first | refine c_cond_d rfl (fun h => ?_) (fun h => ?_) | refine c_cond_n rfl (fun h => ?_) (fun h => ?_)) <;> (try (first | contradiction | (exfalso; omega)))) | refine c_cond_nb rfl (fun h => ?_) (fun h => ?_) | refine c_cond rfl (fun h => ?_) (fun h => ?_))) | refine c_block ?_ | refine c_skip ?_ | refine c_exit ?_ | refine c_regionQN rfl rfl (by decide +kernel) ?_)) | apply s_stepQ | (refine kQG ?_; (first | refine s_gyesQ rfl rfl rfl ?_ | refine s_gnoQ rfl rfl rfl rfl rfl ?_ | ((first | refine s_splitQ_d rfl rfl (fun h => ?_) (fun h => ?_) | refine s_splitQ_n rfl rfl (fun h => ?_) (fun h => ?_)) <;> (try (first | contradiction | (exfalso; omega)))) | refine s_splitQ_nb rfl rfl (fun h => ?_) (fun h => ?_) | refine s_splitQ rfl rfl (fun h => ?_) (fun h => ?_))) | refine lQ_then ?_ | refine lQ_ends ?_ | (refine kE ?_; (first | refine e_then_r ?_ | refine e_block_r ?_ | refine e_then_n ?_ | refine e_then_x ?_ | refine e_block_n ?_ | refine e_block_x ?_ | refine e_block_y rfl ?_)) | refine l_ends ?_)
    · exact s_leave1 rfl rfl (fun w hw => ⟨_, _, _, rfl, ⟨by simp, OVec.nil, rfl⟩, SSt.lone hw⟩)
  | blk b n cap xs r h1 h2 h3 h4 =>
    subst hx
    subst hnn
    refine SYieldsG.mk (s_enterM Try.func81 rfl Try.ntmps81 rfl hH hn ?_)
    repeat' (first | exact rfl | (apply kO; (first | exact ov_pure rfl | (apply kOBin; (first | exact aBin)) | (apply kOCall; (first | (apply kCallB; (first | exact aBlt | exact aLenR)))) | (apply kOLoad; (first | exact aLdF | exact aLdR)) | exact ov_fieldAddr rfl | (apply kOIdx; (first | exact aIdx)) | exact aRest | exact aNew | exact (ov_field1 (ft := 37) rfl rfl rfl rfl))) | (refine kN ?_; (first | (refine kStore ?_; (first | (refine s_setR 0 rfl rfl rfl rfl (by rw [List.length_append, ivals_length, hml j hj]; omega) ?_) | refine s_store1 _ rfl rfl gpA rfl (by rfl) ?_ | refine s_storeS _ rfl rfl gpA rfl rfl (by rfl) ?_ | refine s_storeS _ rfl rfl gpA rfl (ones_img oiA) (by rfl) ?_)) | refine s_boxS rfl rfl (fun b hb => ?_) | refine s_allocS rfl (fun b hb => ?_) | refine s_box1 rfl rfl rfl (fun b hb => ?_) | refine s_alloc1 rfl rfl (fun b hb => ?_) | refine s_buildSlice0 rfl (fun b hb => ?_) | refine s_buildSlice rfl rfl rfl rfl rfl (fun b hb => ?_) | apply s_step)) | (refine kG ?_; (first | refine s_gyes rfl rfl rfl ?_ | refine s_gno rfl rfl rfl rfl rfl ?_ | ((first | refine s_split_d rfl rfl (fun h => ?_) (fun h => ?_) | refine s_split_n rfl rfl (fun h => ?_) (fun h => ?_)) <;> (try (first | contradiction | (exfalso; omega)))) | refine s_split_nb rfl rfl (fun h => ?_) (fun h => ?_) | refine s_split rfl rfl (fun h => ?_) (fun h => ?_))) | refine l_then ?_ | (refine kC ?_; (first | (refine c_loopV (ι := Nat) (fun j => j ≤ l.length) (fun j => [(1, .int .i64 (k + j)), (5, .int .i64 (j : Int))]) (fun j => [[(b, srow (ivals (markTo l k j) ++ r) 3)]]) (fun j => l.length - j) 0 (by omega) rfl (fun _ => rfl) ⟨slook_to rfl (vint_to (by simp)), rfl, trivial⟩ (fun w hw => by rw [markTo_zero]; simpa using hw) (fun j hj => ?_)) | refine c_seq ?_ | refine c_regionN rfl ?_ | refine c_ret ?_ | (refine kCond ?_; (first | refine c_cond_t rfl ?_ | refine c_cond_f rfl ?_ | ((first | refine c_cond_d rfl (fun h => ?_) (fun h => ?_) | refine c_cond_n rfl (fun h => ?_) (fun h => ?_)) <;> (try (first | contradiction | (exfalso; omega)))) | refine c_cond_nb rfl (fun h => ?_) (fun h => ?_) | refine c_cond rfl (fun h => ?_) (fun h => ?_))) | refine c_block ?_ | refine c_skip ?_ | refine c_exit ?_ | refine c_regionQN rfl rfl (by decide +kernel) ?_)) | apply s_stepQ | (refine kQG ?_; (first | refine s_gyesQ rfl rfl rfl ?_ | refine s_gnoQ rfl rfl rfl rfl rfl ?_ | ((first | refine s_splitQ_d rfl rfl (fun h => ?_) (fun h => ?_) | refine s_splitQ_n rfl rfl (fun h => ?_) (fun h => ?_)) <;> (try (first | contradiction | (exfalso; omega)))) | refine s_splitQ_nb rfl rfl (fun h => ?_) (fun h => ?_) | refine s_splitQ rfl rfl (fun h => ?_) (fun h => ?_))) | refine lQ_then ?_ | refine lQ_ends ?_ | (refine kE ?_; (first | refine e_then_r ?_ | refine e_block_r ?_ | refine e_then_n ?_ | refine e_then_x ?_ | refine e_block_n ?_ | refine e_block_x ?_ | refine e_block_y rfl ?_)) | refine l_ends ?_)
    · refine e_round (j + 1) (by omega) ⟨slook_to rfl (vint_to (by omega)), rfl, (by repeat' first | exact trivial | refine ⟨rfl, ?_⟩)⟩ (fun w hw => ?_) (by omega)
      rw [show 0 + (j : Int).toNat * 1 = j by omega, set_ivals _ _ (by rw [hml j hj]; omega), markTo_set _ _ _ (by omega)] at hw
      exact hw
    · obtain rfl : j = l.length := by omega
      rw [markTo_all]
      refine s_leave1 rfl rfl (fun w hw => ⟨_, _, _, rfl, ⟨rfl, ?_, rfl⟩, SSt.lone hw⟩)
      have := OVec.blk (k := 1) (T := 3) b l.length cap (ivals (iota k l.length)) r (by rw [ivals_length, hil]; omega) (by simp [ivals_length, hil] at h2 ⊢; omega) h3 h4
      rw [OInts, hil]; exact this
theorem c_heldIntS (v : Value) (l : List Int) (k : Int) (w : World) (hv : RInts w v l) (hk : 0 ≤ k ∧ k + l.length ≤ 4611686018427387904) : SYields Try.prog 82 #[v, .int .i64 k] (.int .i64 (heldI l k)) w := by
  have hl := hv.len
  (first | apply SYields.mk | apply SYieldsF.mk | skip); refine s_enter Try.func82 rfl Try.ntmps82 rfl ?_
  repeat' (first | exact rfl | (apply kO; (first | exact ov_pure rfl | (apply kOBin; (first | exact aBin)) | (apply kOCall; (first | (apply kCallB; (first | exact aBlt | exact aLenR)))) | (apply kOLoad; (first | exact aLdF | exact aLdR)) | exact ov_fieldAddr rfl | (apply kOIdx; (first | exact aIdx)) | exact aRest | exact aNew | exact (ov_field1 (ft := 37) rfl rfl rfl rfl))) | (refine kN ?_; (first | (refine kStore ?_; (first | refine s_store1 _ rfl rfl gpA rfl (by rfl) ?_ | refine s_storeS _ rfl rfl gpA rfl rfl (by rfl) ?_ | refine s_storeS _ rfl rfl gpA rfl (ones_img oiA) (by rfl) ?_)) | refine s_boxS rfl rfl (fun b hb => ?_) | refine s_allocS rfl (fun b hb => ?_) | refine s_box1 rfl rfl rfl (fun b hb => ?_) | refine s_alloc1 rfl rfl (fun b hb => ?_) | refine s_buildSlice0 rfl (fun b hb => ?_) | refine s_buildSlice rfl rfl rfl rfl rfl (fun b hb => ?_) | apply s_step)) | (refine kG ?_; (first | refine s_gyes rfl rfl rfl ?_ | refine s_gno rfl rfl rfl rfl rfl ?_ | ((first | refine s_split_d rfl rfl (fun h => ?_) (fun h => ?_) | refine s_split_n rfl rfl (fun h => ?_) (fun h => ?_)) <;> (try (first | contradiction | (exfalso; omega)))) | refine s_split_nb rfl rfl (fun h => ?_) (fun h => ?_) | refine s_split rfl rfl (fun h => ?_) (fun h => ?_))) | refine l_then ?_ | (refine kC ?_; (first | (refine c_loopV (ι := Nat) (fun j => j ≤ l.length ∧ heldTo l k j) (fun j => [(1, .int .i64 (k + j)), (5, .int .i64 (j : Int))]) (fun _ => []) (fun j => l.length - j) 0 ⟨by omega, fun i hi => by omega⟩ rfl (fun _ => rfl) ⟨slook_to rfl (vint_to (by simp)), rfl, trivial⟩ (fun w hw => hw) (fun j hj => ?_)) | refine c_seq ?_ | refine c_regionN rfl ?_ | refine c_ret ?_ | (refine kCond ?_; (first | refine c_cond_t rfl ?_ | refine c_cond_f rfl ?_ | ((first | refine c_cond_d rfl (fun h => ?_) (fun h => ?_) | refine c_cond_n rfl (fun h => ?_) (fun h => ?_)) <;> (try (first | contradiction | (exfalso; omega)))) | refine c_cond_nb rfl (fun h => ?_) (fun h => ?_) | refine c_cond rfl (fun h => ?_) (fun h => ?_))) | refine c_block ?_ | refine c_skip ?_ | refine c_exit ?_ | refine c_regionQN rfl rfl (by decide +kernel) ?_)) | apply s_stepQ | (refine kQG ?_; (first | refine s_gyesQ rfl rfl rfl ?_ | refine s_gnoQ rfl rfl rfl rfl rfl ?_ | ((first | refine s_splitQ_d rfl rfl (fun h => ?_) (fun h => ?_) | refine s_splitQ_n rfl rfl (fun h => ?_) (fun h => ?_)) <;> (try (first | contradiction | (exfalso; omega)))) | refine s_splitQ_nb rfl rfl (fun h => ?_) (fun h => ?_) | refine s_splitQ rfl rfl (fun h => ?_) (fun h => ?_))) | refine lQ_then ?_ | refine lQ_ends ?_ | (refine kE ?_; (first | refine e_then_r ?_ | refine e_block_r ?_ | refine e_then_n ?_ | refine e_then_x ?_ | refine e_block_n ?_ | refine e_block_x ?_ | refine e_block_y rfl ?_)) | refine l_ends ?_)
  all_goals try simp only [Int.toNat_natCast] at *
  · exact s_leave1 rfl rfl (fun w hw => ⟨ret_int (by unfold heldI; rw [if_neg (heldTo_ne (j := j) (by omega) (by omega))]), hw.below⟩)
  · exact e_round (j + 1) ⟨by omega, fun i hi => by
      by_cases e : i = j
      · subst e; omega
      · exact hj.2 i (by omega)⟩ ⟨slook_to rfl (vint_to (by omega)), rfl, (by repeat' first | exact trivial | refine ⟨rfl, ?_⟩)⟩ (fun w hw => hw) (by omega)
  · obtain rfl : j = l.length := by omega
    exact s_leave1 rfl rfl (fun w hw => ⟨ret_int (by unfold heldI; rw [if_pos (heldTo_all hj.2 (by omega))]), hw.below⟩)
theorem c_markImage (i : DImg) (d : Value) (H : SPiece) (k : Int) (w : World) (hv : OInts 3 d i.data H) (hH : Holds w H) (hn : H.keys.Nodup) (hk : 0 ≤ k ∧ k + i.data.length ≤ 4611686018427387904) :
    SYieldsG Try.prog 30 #[vImg i d, .int .i64 k] H (fun u H' F => u = .int .i64 (k + i.data.length) ∧ OInts 3 d (iota k i.data.length) H' ∧ F = []) w := by
  refine SYieldsG.mk (s_enterM Try.func30 rfl Try.ntmps30 rfl hH hn ?_)
  repeat' (first | exact rfl | (apply kO; (first | exact ov_pure rfl | (apply kOBin; (first | exact aBin)) | (apply kOCall; (first | (apply kCallB; (first | exact aBlt | exact aLenR)))) | (apply kOLoad; (first | exact aLdF | exact aLdR)) | exact ov_fieldAddr rfl | (apply kOIdx; (first | exact aIdx)) | exact aRest | exact aNew | exact (ov_field1 (ft := 37) rfl rfl rfl rfl))) | (refine kN ?_; (first | (refine kCall ?_; (first | (refine kWFunc ?_; (refine s_callG 1 (fun u H' F => u = .int .i64 (k + i.data.length) ∧ OInts 3 d (iota k i.data.length) H' ∧ F = []) rfl rfl (fun w hw hh hn => c_markIntS _ _ _ _ w hv hh hn hk) rfl (fun u H' F hu => ?_); obtain ⟨rfl, hu, rfl⟩ := hu)) | apply s_step)) | (refine kStore ?_; (first | refine s_store1 _ rfl rfl gpA rfl (by rfl) ?_ | refine s_storeS _ rfl rfl gpA rfl rfl (by rfl) ?_ | refine s_storeS _ rfl rfl gpA rfl (ones_img oiA) (by rfl) ?_)) | refine s_boxS rfl rfl (fun b hb => ?_) | refine s_allocS rfl (fun b hb => ?_) | refine s_box1 rfl rfl rfl (fun b hb => ?_) | refine s_alloc1 rfl rfl (fun b hb => ?_) | refine s_buildSlice0 rfl (fun b hb => ?_) | refine s_buildSlice rfl rfl rfl rfl rfl (fun b hb => ?_) | apply s_step)) | (refine kG ?_; (first | refine s_gyes rfl rfl rfl ?_ | refine s_gno rfl rfl rfl rfl rfl ?_ | ((first | refine s_split_d rfl rfl (fun h => ?_) (fun h => ?_) | refine s_split_n rfl rfl (fun h => ?_) (fun h => ?_)) <;> (try (first | contradiction | (exfalso; omega)))) | refine s_split_nb rfl rfl (fun h => ?_) (fun h => ?_) | refine s_split rfl rfl (fun h => ?_) (fun h => ?_))) | refine l_then ?_ | (refine kC ?_; (first | refine c_seq ?_ | refine c_regionN rfl ?_ | refine c_ret ?_ | (refine kCond ?_; (first | refine c_cond_t rfl ?_ | refine c_cond_f rfl ?_ | ((first | refine c_cond_d rfl (fun h => ?_) (fun h => ?_) | refine c_cond_n rfl (fun h => ?_) (fun h => ?_)) <;> (try (first | contradiction | (exfalso; omega)))) | refine c_cond_nb rfl (fun h => ?_) (fun h => ?_) | refine c_cond rfl (fun h => ?_) (fun h => ?_))) | refine c_block ?_ | refine c_skip ?_ | refine c_exit ?_ | refine c_regionQN rfl rfl (by decide +kernel) ?_)) | apply s_stepQ | (refine kQG ?_; (first | refine s_gyesQ rfl rfl rfl ?_ | refine s_gnoQ rfl rfl rfl rfl rfl ?_ | ((first | refine s_splitQ_d rfl rfl (fun h => ?_) (fun h => ?_) | refine s_splitQ_n rfl rfl (fun h => ?_) (fun h => ?_)) <;> (try (first | contradiction | (exfalso; omega)))) | refine s_splitQ_nb rfl rfl (fun h => ?_) (fun h => ?_) | refine s_splitQ rfl rfl (fun h => ?_) (fun h => ?_))) | refine lQ_then ?_ | refine lQ_ends ?_ | (refine kE ?_; (first | refine e_then_r ?_ | refine e_block_r ?_ | refine e_then_n ?_ | refine e_then_x ?_ | refine e_block_n ?_ | refine e_block_x ?_ | refine e_block_y rfl ?_)) | refine l_ends ?_)
  all_goals refine s_leave1 rfl rfl (fun w hw => ⟨_, _, _, rfl, ⟨rfl, by assumption, rfl⟩, ?_⟩)
  all_goals exact (hw.sub (L' := [_]) (by repeat' first | exact List.nil_sublist _ | exact List.Sublist.slnil | refine List.Sublist.cons_cons _ ?_ | refine List.Sublist.cons _ ?_)).lone
theorem c_heldImage (i : DImg) (d : Value) (k : Int) (w : World) (hv : RInts w d i.data) (hk : 0 ≤ k ∧ k + i.data.length ≤ 4611686018427387904) : SYields Try.prog 31 #[vImg i d, .int .i64 k] (.int .i64 (heldI i.data k)) w := by
  (first | apply SYields.mk | apply SYieldsF.mk | skip); refine s_enter Try.func31 rfl Try.ntmps31 rfl ?_
  repeat' (first | exact rfl | (apply kO; (first | exact ov_pure rfl | (apply kOBin; (first | exact aBin)) | (apply kOCall; (first | (apply kCallF; (first | exact (ov_call rfl (fun w hw => c_heldIntS _ _ _ w (riA hw) hk)))) | (apply kCallB; (first | exact aBlt | exact aLenR)))) | (apply kOLoad; (first | exact aLdF | exact aLdR)) | exact ov_fieldAddr rfl | (apply kOIdx; (first | exact aIdx)) | exact aRest | exact aNew | exact (ov_field1 (ft := 37) rfl rfl rfl rfl))) | (refine kN ?_; (first | (refine kStore ?_; (first | refine s_store1 _ rfl rfl gpA rfl (by rfl) ?_ | refine s_storeS _ rfl rfl gpA rfl rfl (by rfl) ?_ | refine s_storeS _ rfl rfl gpA rfl (ones_img oiA) (by rfl) ?_)) | refine s_boxS rfl rfl (fun b hb => ?_) | refine s_allocS rfl (fun b hb => ?_) | refine s_box1 rfl rfl rfl (fun b hb => ?_) | refine s_alloc1 rfl rfl (fun b hb => ?_) | refine s_buildSlice0 rfl (fun b hb => ?_) | refine s_buildSlice rfl rfl rfl rfl rfl (fun b hb => ?_) | apply s_step)) | (refine kG ?_; (first | refine s_gyes rfl rfl rfl ?_ | refine s_gno rfl rfl rfl rfl rfl ?_ | ((first | refine s_split_d rfl rfl (fun h => ?_) (fun h => ?_) | refine s_split_n rfl rfl (fun h => ?_) (fun h => ?_)) <;> (try (first | contradiction | (exfalso; omega)))) | refine s_split_nb rfl rfl (fun h => ?_) (fun h => ?_) | refine s_split rfl rfl (fun h => ?_) (fun h => ?_))) | refine l_then ?_ | (refine kC ?_; (first | refine c_seq ?_ | refine c_regionN rfl ?_ | refine c_ret ?_ | (refine kCond ?_; (first | refine c_cond_t rfl ?_ | refine c_cond_f rfl ?_ | ((first | refine c_cond_d rfl (fun h => ?_) (fun h => ?_) | refine c_cond_n rfl (fun h => ?_) (fun h => ?_)) <;> (try (first | contradiction | (exfalso; omega)))) | refine c_cond_nb rfl (fun h => ?_) (fun h => ?_) | refine c_cond rfl (fun h => ?_) (fun h => ?_))) | refine c_block ?_ | refine c_skip ?_ | refine c_exit ?_ | refine c_regionQN rfl rfl (by decide +kernel) ?_)) | apply s_stepQ | (refine kQG ?_; (first | refine s_gyesQ rfl rfl rfl ?_ | refine s_gnoQ rfl rfl rfl rfl rfl ?_ | ((first | refine s_splitQ_d rfl rfl (fun h => ?_) (fun h => ?_) | refine s_splitQ_n rfl rfl (fun h => ?_) (fun h => ?_)) <;> (try (first | contradiction | (exfalso; omega)))) | refine s_splitQ_nb rfl rfl (fun h => ?_) (fun h => ?_) | refine s_splitQ rfl rfl (fun h => ?_) (fun h => ?_))) | refine lQ_then ?_ | refine lQ_ends ?_ | (refine kE ?_; (first | refine e_then_r ?_ | refine e_block_r ?_ | refine e_then_n ?_ | refine e_then_x ?_ | refine e_block_n ?_ | refine e_block_x ?_ | refine e_block_y rfl ?_)) | refine l_ends ?_)
  all_goals refine s_leave1 rfl rfl (fun w hw => ⟨?_, hw.below⟩)
  all_goals (refine ret_int ?_; have hh : heldI i.data k = k + i.data.length ∨ heldI i.data k = -1 := (by unfold heldI; split <;> simp); omega)
end Go.Proofs.Ytpcammhmgleonaa
namespace Go.Proofs.Ytpcammhmgleonaa
open Go Sx
attribute [local irreducible] Exit.then Exit.inBlock bodyPost
theorem ditherImage_len (i : DImg) : (ditherImage i).length ≤ 256 := by
  unfold ditherImage; split
  · rename_i h; have := h.len; simp; omega
  · simp
theorem colorImage_len (m : DColor) (i : DImg) : (colorImage m i).data.length ≤ 256 := by
  unfold colorImage; split
  · rename_i h; have := h.2.len; simp; omega
  · simp [DImg.zero]
theorem c_heldImg (p q : Int) (v : Value) (l : List Int) (k : Int) (w : World) (hv : RInts w v l) (hk : 0 ≤ k ∧ k + l.length ≤ 4611686018427387904) : SYields Try.prog 31 #[.agg #[.int .i64 p, .int .i64 q, v], .int .i64 k] (.int .i64 (heldI l k)) w := c_heldImage ⟨p, q, l⟩ v k w hv hk
section
variable {n : Nat} {lo : SMut} {s : World} {ops : Array Oper} {Q : Exit → Act → World → Prop} {E : SEnv} {L : SHeap} {dd : Nat} {ty : TypeId} {pos : String} {after : Array Edge} {rest : List Oper}
theorem s_markI (i : Nat) {v : Value} {l : List Int} {k : Int} {H : SPiece} {args : List Operand} {ts : Array TypeId} (ha : svals E args = some [v, .int .i64 k]) (hv : OInts 3 v l H) (hL : getL L i = some H) (hk : 0 ≤ k ∧ k + l.length ≤ 4611686018427387904) (hd : Nat.blt dd n = true)
    (c : ∀ H', OInts 3 v (iota k l.length) H' → WPL Try.prog n lo s ops Q rest ((dd, .int .i64 (k + l.length)) :: E) ([] :: setL L i H')) :
    WPL Try.prog n lo s ops Q (⟨some dd, .call { callee := .value (.func 81), args := args.toArray, argTypes := ts }, ty, pos, after, none⟩ :: rest) E L :=
  s_callG i (fun u H' F => u = .int .i64 (k + l.length) ∧ OInts 3 v (iota k l.length) H' ∧ F = []) ha hL (fun w hw hh hn => c_markIntS v l H k w hv hh hn hk) hd (fun v' H' F hu => by obtain ⟨rfl, hu, rfl⟩ := hu; exact c H' hu)
theorem s_markImg (i : Nat) {p q : Int} {v : Value} {l : List Int} {k : Int} {H : SPiece} {args : List Operand} {ts : Array TypeId} (ha : svals E args = some [.agg #[.int .i64 p, .int .i64 q, v], .int .i64 k]) (hv : OInts 3 v l H) (hL : getL L i = some H) (hk : 0 ≤ k ∧ k + l.length ≤ 4611686018427387904) (hd : Nat.blt dd n = true)
    (c : ∀ H', OInts 3 v (iota k l.length) H' → WPL Try.prog n lo s ops Q rest ((dd, .int .i64 (k + l.length)) :: E) ([] :: setL L i H')) :
    WPL Try.prog n lo s ops Q (⟨some dd, .call { callee := .value (.func 30), args := args.toArray, argTypes := ts }, ty, pos, after, none⟩ :: rest) E L :=
  s_callG i (fun u H' F => u = .int .i64 (k + l.length) ∧ OInts 3 v (iota k l.length) H' ∧ F = []) ha hL (fun w hw hh hn => c_markImage ⟨p, q, l⟩ v H k w hv hh hn hk) hd (fun v' H' F hu => by obtain ⟨rfl, hu, rfl⟩ := hu; exact c H' hu)
end
end Go.Proofs.Ytpcammhmgleonaa
namespace Go.Proofs.Ytpcammhmgleonaa
open Go Sx
attribute [local irreducible] Exit.then Exit.inBlock bodyPost
theorem OColor.form {u : Value} {c : DColor} {H : SPiece} (h : OColor u c H) : ∃ p q r s, u = .agg #[.slice p c.mat.length q, .slice r c.curve.length s] := by
  obtain ⟨a, b, H1, H2, rfl, o1, o2, rfl⟩ := h
  have f1 := o1.form
  have f2 := o2.form
  obtain ⟨_, _, rfl⟩ := f1
  obtain ⟨_, _, rfl⟩ := f2
  exact ⟨_, _, _, _, rfl⟩
theorem OColor.r1 {a b : Value} {c : DColor} {H : SPiece} (h : OColor (.agg #[a, b]) c H) {w : World} (hw : Holds w H) : RInts w a c.mat := by
  obtain ⟨a', b', H1, H2, e, o1, o2, rfl⟩ := h
  simp only [Value.agg.injEq, Array.mk.injEq, List.cons.injEq, and_true] at e
  obtain ⟨rfl, rfl⟩ := e
  exact OInts.reads o1 (hw.sub (i := 1) rfl)
theorem OColor.r2 {a b : Value} {c : DColor} {H : SPiece} (h : OColor (.agg #[a, b]) c H) {w : World} (hw : Holds w H) : RInts w b c.curve := by
  obtain ⟨a', b', H1, H2, e, o1, o2, rfl⟩ := h
  simp only [Value.agg.injEq, Array.mk.injEq, List.cons.injEq, and_true] at e
  obtain ⟨rfl, rfl⟩ := e
  exact OInts.reads o2 (hw.sub (i := 0) rfl)
def szC (a b : Nat) (left : Int) : Int := if left - a < 0 ∨ left - a - b < 0 then -1 else left - a - b
theorem szC_or (a b : Nat) (left : Int) : szC a b left = -1 ∧ left < a + b ∨ szC a b left = left - a - b ∧ (a : Int) + b ≤ left := by
  unfold szC; split <;> omega
theorem c_szCM (vm vc : Value) (k l : List Int) (left : Int) (w : World) (hm : RInts w vm k) (hc : RInts w vc l) (hl : 0 ≤ left ∧ left ≤ 1048576) : SYields Try.prog 21 #[.agg #[vm, vc], .int .i64 left] (.int .i64 (szC k.length l.length left)) w := c_szColorMap vm vc k l left w hm hc hl
theorem c_heap {P : Program} {n : Nat} {lo : SMut} {s : World} {c : Code} {Q : Exit → Act → World → Prop} {E : SEnv} {L L' : SHeap} (h : ∀ w, SSt lo s L w → SSt lo s L' w) (k : WPC P n lo s c Q E L') : WPC P n lo s c Q E L := by
  unfold WPC at *
  exact fun a w ha hw => k a w ha (h w hw)
theorem c_markColorMap (u : Value) (c : DColor) (H : SPiece) (q : Int) (w : World) (hu : OColor u c H) (hH : Holds w H) (hn : H.keys.Nodup) (hl : c.mat.length ≤ 1048576 ∧ c.curve.length ≤ 1048576) (hk : 0 ≤ q ∧ q ≤ 1000000000000) :
    SYieldsG Try.prog 29 #[u, .int .i64 q] H (fun v H' F => v = .int .i64 (q + c.mat.length + c.curve.length)) w := by
  obtain ⟨a, b0, H1, H2, rfl, o1, o2, rfl⟩ := hu
  have f1 := o1.form
  have f2 := o2.form
  obtain ⟨_, _, rfl⟩ := f1
  obtain ⟨_, _, rfl⟩ := f2
  refine SYieldsG.mk (s_enterM Try.func29 rfl Try.ntmps29 rfl hH hn ?_)
  refine c_heap (L' := [H2, H1]) (fun w hw => hw.perm (by simp)) ?_
  repeat' (first | exact rfl | (apply kO; (first | exact ov_pure rfl | (apply kOBin; (first | exact aBin)) | (apply kOCall; (first | (apply kCallB; (first | exact aBlt | exact aLenR)))) | (apply kOLoad; (first | exact aLdF | exact aLdR)) | exact ov_fieldAddr rfl | (apply kOIdx; (first | exact aIdx)) | exact aRest | exact aNew | exact (ov_field1 (ft := 37) rfl rfl rfl rfl))) | (refine kN ?_; (first | (refine kCall ?_; (first | (refine kWFn 81 ?_; (refine s_markI _ rfl (by assumption) gpA (by omega) rfl (fun H' hu => ?_))) | apply s_step)) | (refine kStore ?_; (first | refine s_store1 _ rfl rfl gpA rfl (by rfl) ?_ | refine s_storeS _ rfl rfl gpA rfl rfl (by rfl) ?_ | refine s_storeS _ rfl rfl gpA rfl (ones_img oiA) (by rfl) ?_)) | refine s_boxS rfl rfl (fun b hb => ?_) | refine s_allocS rfl (fun b hb => ?_) | refine s_box1 rfl rfl rfl (fun b hb => ?_) | refine s_alloc1 rfl rfl (fun b hb => ?_) | refine s_buildSlice0 rfl (fun b hb => ?_) | refine s_buildSlice rfl rfl rfl rfl rfl (fun b hb => ?_) | apply s_step)) | (refine kG ?_; (first | refine s_gyes rfl rfl rfl ?_ | refine s_gno rfl rfl rfl rfl rfl ?_ | ((first | refine s_split_d rfl rfl (fun h => ?_) (fun h => ?_) | refine s_split_n rfl rfl (fun h => ?_) (fun h => ?_)) <;> (try (first | contradiction | (exfalso; omega)))) | refine s_split_nb rfl rfl (fun h => ?_) (fun h => ?_) | refine s_split rfl rfl (fun h => ?_) (fun h => ?_))) | refine l_then ?_ | (refine kC ?_; (first | refine c_seq ?_ | refine c_regionN rfl ?_ | refine c_ret ?_ | (refine kCond ?_; (first | refine c_cond_t rfl ?_ | refine c_cond_f rfl ?_ | ((first | refine c_cond_d rfl (fun h => ?_) (fun h => ?_) | refine c_cond_n rfl (fun h => ?_) (fun h => ?_)) <;> (try (first | contradiction | (exfalso; omega)))) | refine c_cond_nb rfl (fun h => ?_) (fun h => ?_) | refine c_cond rfl (fun h => ?_) (fun h => ?_))) | refine c_block ?_ | refine c_skip ?_ | refine c_exit ?_ | refine c_regionQN rfl rfl (by decide +kernel) ?_)) | apply s_stepQ | (refine kQG ?_; (first | refine s_gyesQ rfl rfl rfl ?_ | refine s_gnoQ rfl rfl rfl rfl rfl ?_ | ((first | refine s_splitQ_d rfl rfl (fun h => ?_) (fun h => ?_) | refine s_splitQ_n rfl rfl (fun h => ?_) (fun h => ?_)) <;> (try (first | contradiction | (exfalso; omega)))) | refine s_splitQ_nb rfl rfl (fun h => ?_) (fun h => ?_) | refine s_splitQ rfl rfl (fun h => ?_) (fun h => ?_))) | refine lQ_then ?_ | refine lQ_ends ?_ | (refine kE ?_; (first | refine e_then_r ?_ | refine e_block_r ?_ | refine e_then_n ?_ | refine e_then_x ?_ | refine e_block_n ?_ | refine e_block_x ?_ | refine e_block_y rfl ?_)) | refine l_ends ?_)
  all_goals refine s_leave1 rfl rfl (fun w hw => ⟨_, _, _, rfl, rfl, hw.sub (selO_sub [false, false, false, true, true] _ _ rfl)⟩)
section
variable {n : Nat} {lo : SMut} {s : World} {ops : Array Oper} {Q : Exit → Act → World → Prop} {E : SEnv} {L : SHeap} {dd : Nat} {ty : TypeId} {pos : String} {after : Array Edge} {rest : List Oper}
theorem s_markCM (i : Nat) {u : Value} {c : DColor} {k : Int} {H : SPiece} {args : List Operand} {ts : Array TypeId} (ha : svals E args = some [u, .int .i64 k]) (hv : OColor u c H) (hL : getL L i = some H) (hl : c.mat.length ≤ 1048576 ∧ c.curve.length ≤ 1048576) (hk : 0 ≤ k ∧ k ≤ 1000000000000) (hd : Nat.blt dd n = true)
    (cc : ∀ H' F, WPL Try.prog n lo s ops Q rest ((dd, .int .i64 (k + c.mat.length + c.curve.length)) :: E) (F :: setL L i H')) :
    WPL Try.prog n lo s ops Q (⟨some dd, .call { callee := .value (.func 29), args := args.toArray, argTypes := ts }, ty, pos, after, none⟩ :: rest) E L :=
  s_callG i (fun v H' F => v = .int .i64 (k + c.mat.length + c.curve.length)) ha hL (fun w hw hh hn => c_markColorMap u c H k w hv hh hn hl hk) hd (fun v' H' F hu => by subst hu; exact cc H' F)
end
end Go.Proofs.Ytpcammhmgleonaa
namespace Go.Proofs.Ytpcammhmgleonaa
open Go Sx
theorem papart : ∀ {L : SHeap} {i j : Nat} {A B : SPiece} {k : Nat} {o p : Obj}, (L.flatten.map (·.1)).Nodup → getL L i = some A → getL L j = some B → i ≠ j → (k, o) ∈ A → (k, p) ∈ B → False
  | [], i, j, A, B, k, o, p, hn, hi, hj, hij, ha, hb => by simp [getL] at hi
  | X :: L, 0, 0, A, B, k, o, p, hn, hi, hj, hij, ha, hb => hij rfl
  | X :: L, 0, j + 1, A, B, k, o, p, hn, hi, hj, hij, ha, hb => by
    simp only [getL, Option.some.injEq] at hi
    subst hi
    rw [List.flatten_cons, List.map_append, List.nodup_append] at hn
    exact hn.2.2 k (List.mem_map.2 ⟨(k, o), ha, rfl⟩) k (List.mem_map.2 ⟨(k, p), getL_flat (show getL L j = some B from hj) hb, rfl⟩) rfl
  | X :: L, i + 1, 0, A, B, k, o, p, hn, hi, hj, hij, ha, hb => by
    simp only [getL, Option.some.injEq] at hj
    subst hj
    rw [List.flatten_cons, List.map_append, List.nodup_append] at hn
    exact hn.2.2 k (List.mem_map.2 ⟨(k, p), hb, rfl⟩) k (List.mem_map.2 ⟨(k, o), getL_flat (show getL L i = some A from hi) ha, rfl⟩) rfl
  | X :: L, i + 1, j + 1, A, B, k, o, p, hn, hi, hj, hij, ha, hb => by
    rw [List.flatten_cons, List.map_append, List.nodup_append] at hn
    exact papart (L := L) hn.2.1 (show getL L i = some A from hi) (show getL L j = some B from hj) (fun e => hij (by rw [e])) ha hb
inductive Picks (L : SHeap) : List Nat → SHeap → Prop
  | nil : Picks L [] []
  | cons {i : Nat} {A : SPiece} {is : List Nat} {L' : SHeap} (hi : getL L i = some A) (h : Picks L is L') : Picks L (i :: is) (A :: L')
theorem Picks.mem {L L' : SHeap} {is : List Nat} (h : Picks L is L') {p : Nat × Obj} (hp : p ∈ L'.flatten) : ∃ j B, j ∈ is ∧ getL L j = some B ∧ p ∈ B := by
  induction h with
  | nil => simp at hp
  | @cons i A is L' hi h ih =>
    rw [List.flatten_cons, List.mem_append] at hp
    rcases hp with hp | hp
    · exact ⟨i, A, List.mem_cons_self .., hi, hp⟩
    · obtain ⟨j, B, h1, h2, h3⟩ := ih hp
      exact ⟨j, B, List.mem_cons_of_mem _ h1, h2, h3⟩
def nodupB : List Nat → Bool
  | [] => true
  | i :: is => !is.contains i && nodupB is
theorem _root_.Sx.SSt.picks {lo : SMut} {s w : World} {L L' : SHeap} {is : List Nat} (h : SSt lo s L w) (hp : Picks L is L') (hd : nodupB is = true) : SSt lo s L' w := by
  refine ⟨h.kept, fun b o hm => ?_, ?_⟩
  · obtain ⟨j, B, h1, h2, h3⟩ := hp.mem hm
    exact h.blocks b o (getL_flat h2 h3)
  · have hn := h.nodup
    clear h
    induction hp with
    | nil => exact List.nodup_nil
    | @cons i A is L' hi hp ih =>
      simp only [nodupB, Bool.and_eq_true, Bool.not_eq_true'] at hd
      rw [List.flatten_cons, List.map_append, List.nodup_append]
      refine ⟨((List.sublist_flatten_of_mem (getL_mem hi)).map _).nodup hn, ih hd.2, ?_⟩
      intro k hk k' hk' e
      subst e
      obtain ⟨⟨k1, o⟩, h1, rfl⟩ := List.mem_map.1 hk
      obtain ⟨⟨k2, p⟩, h2, h3⟩ := List.mem_map.1 hk'
      obtain ⟨j, B, h4, h5, h6⟩ := hp.mem h2
      dsimp only at h3
      subst h3
      refine papart hn hi h5 (fun e => ?_) h1 h6
      subst e
      have := hd.1
      rw [List.contains_eq_mem, decide_eq_false_iff_not] at this
      exact this h4
def lrev : SHeap → SHeap → SHeap
  | [], acc => acc
  | p :: r, acc => lrev r (p :: acc)
def lapp' : SHeap → SHeap → Option SHeap
  | [], acc => some acc
  | p :: r, acc => lapp' r (p :: acc)
def lapp (A B : SHeap) : Option SHeap := lapp' (lrev A []) B
section
variable {P : Program} {n : Nat} {lo : SMut} {s : World} {Q : Exit → Act → World → Prop} {E : SEnv} {L : SHeap}
theorem kSeqR (id : Nat) {ops : Array Oper} {dr : Bool} {y : Code} (h : WPC P n lo s (.seq (.region id ops dr) y) Q E L) : WPC P n lo s (.seq (.region id ops dr) y) Q E L := h
theorem c_join {ι : Type} (ks : List Bool) {id : Nat} {ops : Array Oper} {dr : Bool} {y : Code} {E0 : SEnv} {L0 : SHeap} (I : ι → Prop) (V : ι → SEnv) (A : ι → SHeap) {F : ι → SEnv} {H : ι → SHeap}
    (hk : selO ks L = some L0) (hE0 : sloopE (.region id ops dr) E = some E0) (hF : ∀ i, sapp (V i) E0 = some (F i)) (hH : ∀ i, lapp (A i) L0 = some (H i))
    (hx : WPC P n lo s (.region id ops dr) (Exit.then (fun a w => ∃ j, I j ∧ SSat n a (F j) ∧ SSt lo s (H j) w) Q) E L)
    (hy : ∀ j, I j → WPC P n lo s y Q (F j) (H j)) : WPC P n lo s (.seq (.region id ops dr) y) Q E L := by
  unfold WPC at *
  intro a w ha hw
  refine wp_seq (wp_mono (hx a w ha hw) ?_)
  intro e a' w' h
  cases e with
  | normal => obtain ⟨j, hj, h1, h2⟩ := h; exact hy j hj a' w' h1 h2
  | _ => exact h
theorem e_join {ι : Type} {I : ι → Prop} {F : ι → SEnv} {H : ι → SHeap} (j : ι) (hI : I j) (hE : SSub E (F j)) (hL : ∀ w, SSt lo s L w → SSt lo s (H j) w) :
    SEnds n lo s (Exit.then (fun a w => ∃ j, I j ∧ SSat n a (F j) ∧ SSt lo s (H j) w) Q) .normal E L := by
  unfold SEnds
  exact fun a w ha hw => ⟨j, hI, ha.sub hE, hL w hw⟩
theorem e_joinP {ι : Type} {I : ι → Prop} {F : ι → SEnv} {H : ι → SHeap} {is : List Nat} (j : ι) (hI : I j) (hE : SSub E (F j)) (hp : Picks L is (H j)) (hd : nodupB is = true) :
    SEnds n lo s (Exit.then (fun a w => ∃ j, I j ∧ SSat n a (F j) ∧ SSt lo s (H j) w) Q) .normal E L :=
  e_join j hI hE (fun w hw => hw.picks hp hd)
end
end Go.Proofs.Ytpcammhmgleonaa
