/-
  Texts that the law stands on, part 4: K13, L1, L2, M11, M6, K14, K15, L3, L4, L5, L6, W3, KY, KZ, K2, K4, M4.
-/
import Derived.Laws.StructEq
import Derived.Test.YtpcammhmgleonaaSixB3
set_option linter.unusedVariables false
namespace Go.Proofs.Ytpcammhmgleonaa
open Go Sx
attribute [local irreducible] Exit.then Exit.inBlock bodyPost
theorem c_ipart (a c : Int) (w : World) : SYields Try.prog 170 #[.int .i64 a, .int .i64 c] (.int .i64 (prt a c)) w := by
  have hm := fun (h1 : 0 ≤ a ∧ a ≤ 255) (h2 : 0 ≤ c ∧ c ≤ 255) => mul_bd h1 h2
  (first | apply SYields.mk | apply SYieldsF.mk | skip); refine s_enter Try.func170 rfl Try.ntmps170 rfl ?_
  repeat' (first | exact rfl | (apply kO; (first | exact ov_pure rfl | (apply kOBin; (first | exact aBin | exact (ov_mul rfl rfl (by have := hm (by omega) (by omega); omega)) | exact (ov_add rfl rfl (by have := hm (by omega) (by omega); omega)) | exact (ov_quo rfl rfl (by have := hm (by omega) (by omega); omega)))) | (apply kOCall; ((apply kCallF; (first | exact (ov_call rfl (fun w hw => c_within _ _ _ w)))))))) | (refine kN ?_; (apply s_step)) | (refine kG ?_; (first | refine s_gyes rfl rfl rfl ?_ | refine s_gno rfl rfl rfl rfl rfl ?_ | ((refine s_split_n rfl rfl (fun h => ?_) (fun h => ?_)) <;> (try (first | contradiction | (exfalso; omega)))))) | refine l_then ?_ | (refine kC ?_; (first | refine c_seq ?_ | refine c_regionN rfl ?_ | refine c_ret ?_ | (refine kCond ?_; (first | refine c_cond_t rfl ?_ | ((refine c_cond_n rfl (fun h => ?_) (fun h => ?_)) <;> (try (first | contradiction | (exfalso; omega)))))) | refine c_skip ?_)) | (refine kE ?_; (first | refine e_then_r ?_ | refine e_then_n ?_)))
  all_goals refine s_leave1 rfl rfl (fun w hw => ⟨?_, hw.below⟩)
  all_goals (refine ret_int ?_; unfold prt byteP; first | (rw [if_neg (by omega)]; done) | rw [if_pos ⟨by omega, by omega⟩])
theorem c_ifade (p a : Int) (w : World) : SYields Try.prog 168 #[.int .i64 p, .int .i64 a] (.int .i64 (fade p a)) w := by
  have hp := fun (h : byteP a) => prt_bd (chan_bd p 0) h
  (first | apply SYields.mk | apply SYieldsF.mk | skip); refine s_enter Try.func168 rfl Try.ntmps168 rfl ?_
  repeat' (first | exact rfl | (apply kO; (first | exact ov_pure rfl | (apply kOBin; (first | exact aBin | exact (ov_shlN 24 16777216 (by decide) (by decide) rfl rfl (by have := hp (by unfold byteP; omega); omega)) | exact (ov_orS 24 (p := 16777216) (by decide) rfl rfl (by have := hp (by unfold byteP; omega); omega) (by omega)))) | (apply kOCall; ((apply kCallF; (first | exact (ov_call rfl (fun w hw => c_within _ _ _ w)) | exact (ov_call rfl (fun w hw => c_isPixel _ w)) | exact (ov_call rfl (fun w hw => c_channel _ _ w (by omega))) | exact (ov_call rfl (fun w hw => c_ipart _ _ w)))))))) | (refine kN ?_; (apply s_step)) | (refine kG ?_; (first | refine s_gyes rfl rfl rfl ?_ | refine s_gno rfl rfl rfl rfl rfl ?_ | ((refine s_split_n rfl rfl (fun h => ?_) (fun h => ?_)) <;> (try (first | contradiction | (exfalso; omega)))))) | refine l_then ?_ | (refine kC ?_; (first | refine c_seq ?_ | refine c_regionN rfl ?_ | refine c_ret ?_ | (refine kCond ?_; (first | refine c_cond_t rfl ?_ | ((refine c_cond_n rfl (fun h => ?_) (fun h => ?_)) <;> (try (first | contradiction | (exfalso; omega)))))) | refine c_skip ?_)) | (refine kE ?_; (first | refine e_then_r ?_ | refine e_then_n ?_)))
  all_goals refine s_leave1 rfl rfl (fun w hw => ⟨?_, hw.below⟩)
  all_goals (refine ret_int ?_; unfold fade; first | (rw [if_neg (by simp only [pixP, byteP]; omega)]; done) | (rw [if_pos ⟨by unfold pixP; omega, by unfold byteP; omega⟩]; done) | (rw [if_pos ⟨by unfold pixP; omega, by unfold byteP; omega⟩]; omega))
theorem c_iscalePoint (f t k : Int) (w : World) : SYields Try.prog 167 #[.int .i64 f, .int .i64 t, .int .i64 k] (.int .i64 (scalePoint f t k)) w := by
  have hm := fun (h1 : 0 ≤ k ∧ k ≤ 15) (h2 : 0 ≤ f ∧ f ≤ 16) => mul_bd h1 h2
  (first | apply SYields.mk | apply SYieldsF.mk | skip); refine s_enter Try.func167 rfl Try.ntmps167 rfl ?_
  repeat' (first | exact rfl | (apply kO; (first | exact ov_pure rfl | (apply kOBin; (first | exact aBin | exact (ov_mul rfl rfl (by have := hm (by omega) (by omega); omega)) | exact (ov_quo rfl rfl (by have := hm (by omega) (by omega); omega)))) | (apply kOCall; ((apply kCallF; (first | exact (ov_call rfl (fun w hw => c_within _ _ _ w)) | exact (ov_call rfl (fun w hw => c_isSide _ w)))))))) | (refine kN ?_; (apply s_step)) | (refine kG ?_; (first | refine s_gyes rfl rfl rfl ?_ | refine s_gno rfl rfl rfl rfl rfl ?_ | ((refine s_split_n rfl rfl (fun h => ?_) (fun h => ?_)) <;> (try (first | contradiction | (exfalso; omega)))))) | refine l_then ?_ | (refine kC ?_; (first | refine c_seq ?_ | refine c_regionN rfl ?_ | refine c_ret ?_ | (refine kCond ?_; (first | refine c_cond_t rfl ?_ | ((refine c_cond_n rfl (fun h => ?_) (fun h => ?_)) <;> (try (first | contradiction | (exfalso; omega)))))) | refine c_skip ?_)) | (refine kE ?_; (first | refine e_then_r ?_ | refine e_then_n ?_)))
  all_goals refine s_leave1 rfl rfl (fun w hw => ⟨?_, hw.below⟩)
  all_goals (refine ret_int ?_; unfold scalePoint; first | (rw [if_neg (by omega)]; done) | rw [if_pos (by omega)])
theorem c_spart (a c : Int) (w : World) : SYields Try.prog 98 #[.int .i64 a, .int .i64 c] (.int .i64 (prt a c)) w := by
  have hm := fun (h1 : 0 ≤ a ∧ a ≤ 255) (h2 : 0 ≤ c ∧ c ≤ 255) => mul_bd h1 h2
  (first | apply SYields.mk | apply SYieldsF.mk | skip); refine s_enter Try.func98 rfl Try.ntmps98 rfl ?_
  repeat' (first | exact rfl | (apply kO; (first | exact ov_pure rfl | (apply kOBin; (first | exact aBin | exact (ov_mul rfl rfl (by have := hm (by omega) (by omega); omega)) | exact (ov_add rfl rfl (by have := hm (by omega) (by omega); omega)) | exact (ov_quo rfl rfl (by have := hm (by omega) (by omega); omega)))) | (apply kOCall; ((apply kCallF; (first | exact (ov_call rfl (fun w hw => c_l01In _ _ _ w)))))))) | (refine kN ?_; (apply s_step)) | (refine kG ?_; (first | refine s_gyes rfl rfl rfl ?_ | refine s_gno rfl rfl rfl rfl rfl ?_ | ((refine s_split_n rfl rfl (fun h => ?_) (fun h => ?_)) <;> (try (first | contradiction | (exfalso; omega)))))) | refine l_then ?_ | (refine kC ?_; (first | refine c_seq ?_ | refine c_regionN rfl ?_ | refine c_ret ?_ | (refine kCond ?_; (first | refine c_cond_t rfl ?_ | ((refine c_cond_n rfl (fun h => ?_) (fun h => ?_)) <;> (try (first | contradiction | (exfalso; omega)))))) | refine c_skip ?_)) | (refine kE ?_; (first | refine e_then_r ?_ | refine e_then_n ?_)))
  all_goals refine s_leave1 rfl rfl (fun w hw => ⟨?_, hw.below⟩)
  all_goals (refine ret_int ?_; unfold prt byteP; first | (rw [if_neg (by omega)]; done) | rw [if_pos ⟨by omega, by omega⟩])
theorem c_sfade (p a : Int) (w : World) : SYields Try.prog 157 #[.int .i64 p, .int .i64 a] (.int .i64 (fade p a)) w := by
  have hp := fun (h : byteP a) => prt_bd (chan_bd p 0) h
  (first | apply SYields.mk | apply SYieldsF.mk | skip); refine s_enter Try.func157 rfl Try.ntmps157 rfl ?_
  repeat' (first | exact rfl | (apply kO; (first | exact ov_pure rfl | (apply kOBin; (first | exact aBin | exact (ov_shlN 24 16777216 (by decide) (by decide) rfl rfl (by have := hp (by unfold byteP; omega); omega)) | exact (ov_add rfl rfl (by have := hp (by unfold byteP; omega); omega)))) | (apply kOCall; ((apply kCallF; (first | exact (ov_call rfl (fun w hw => c_l01In _ _ _ w)) | exact (ov_call rfl (fun w hw => c_l04Pixel _ w)) | exact (ov_call rfl (fun w hw => c_schannelIn _ _ w (by omega) (by omega))) | exact (ov_call rfl (fun w hw => c_spart _ _ w)))))))) | (refine kN ?_; (apply s_step)) | (refine kG ?_; (first | refine s_gyes rfl rfl rfl ?_ | refine s_gno rfl rfl rfl rfl rfl ?_ | ((refine s_split_n rfl rfl (fun h => ?_) (fun h => ?_)) <;> (try (first | contradiction | (exfalso; omega)))))) | refine l_then ?_ | (refine kC ?_; (first | refine c_seq ?_ | refine c_regionN rfl ?_ | refine c_ret ?_ | (refine kCond ?_; (first | refine c_cond_t rfl ?_ | ((refine c_cond_n rfl (fun h => ?_) (fun h => ?_)) <;> (try (first | contradiction | (exfalso; omega)))))) | refine c_skip ?_)) | (refine kE ?_; (first | refine e_then_r ?_ | refine e_then_n ?_)))
  all_goals refine s_leave1 rfl rfl (fun w hw => ⟨?_, hw.below⟩)
  all_goals (refine ret_int ?_; unfold fade; first | (rw [if_neg (by simp only [pixP, byteP]; omega)]; done) | (rw [if_pos ⟨by unfold pixP; omega, by unfold byteP; omega⟩]; done) | (rw [if_pos ⟨by unfold pixP; omega, by unfold byteP; omega⟩]; omega))
theorem c_sscalePoint (f t k : Int) (w : World) : SYields Try.prog 173 #[.int .i64 f, .int .i64 t, .int .i64 k] (.int .i64 (scalePoint f t k)) w := by
  have hm := fun (h1 : 0 ≤ k ∧ k ≤ 15) (h2 : 0 ≤ f ∧ f ≤ 16) => mul_bd h1 h2
  (first | apply SYields.mk | apply SYieldsF.mk | skip); refine s_enter Try.func173 rfl Try.ntmps173 rfl ?_
  repeat' (first | exact rfl | (apply kO; (first | exact ov_pure rfl | (apply kOBin; (first | exact aBin | exact (ov_mul rfl rfl (by have := hm (by omega) (by omega); omega)) | exact (ov_quo rfl rfl (by have := hm (by omega) (by omega); omega)))) | (apply kOCall; ((apply kCallF; (first | exact (ov_call rfl (fun w hw => c_l01In _ _ _ w)))))))) | (refine kN ?_; (apply s_step)) | (refine kG ?_; (first | refine s_gyes rfl rfl rfl ?_ | refine s_gno rfl rfl rfl rfl rfl ?_ | ((refine s_split_n rfl rfl (fun h => ?_) (fun h => ?_)) <;> (try (first | contradiction | (exfalso; omega)))))) | refine l_then ?_ | (refine kC ?_; (first | refine c_seq ?_ | refine c_regionN rfl ?_ | refine c_ret ?_ | (refine kCond ?_; (first | refine c_cond_t rfl ?_ | ((refine c_cond_n rfl (fun h => ?_) (fun h => ?_)) <;> (try (first | contradiction | (exfalso; omega)))))) | refine c_skip ?_)) | (refine kE ?_; (first | refine e_then_r ?_ | refine e_then_n ?_)))
  all_goals refine s_leave1 rfl rfl (fun w hw => ⟨?_, hw.below⟩)
  all_goals (refine ret_int ?_; unfold scalePoint; first | (rw [if_neg (by omega)]; done) | rw [if_pos (by omega)])
theorem c_iorientPoint (wd ht o x y : Int) (W : World) : SYields Try.prog 164 #[.int .i64 wd, .int .i64 ht, .int .i64 o, .int .i64 x, .int .i64 y] (.tuple #[.int .i64 (orientPoint wd ht o x y).1, .int .i64 (orientPoint wd ht o x y).2]) W := by
  by_cases hok : orientOk wd ht o ∧ (0 ≤ x ∧ x ≤ wd - 1) ∧ (0 ≤ y ∧ y ≤ ht - 1)
  · have hok' := hok
    unfold orientOk at hok'
    obtain ⟨⟨hw0, hh0, ho0⟩, hx0, hy0⟩ := hok'
    have b1 := fun k => o_bd hw0 hh0 hx0 hy0 k
    have b2 := fun k => o_bd (x := wd - 1 - x) hw0 hh0 (by omega) hy0 k
    have hm : (o % 4).toNat ≤ 3 := by omega
    (first | apply SYields.mk | apply SYieldsF.mk | skip); refine s_enter Try.func164 rfl Try.ntmps164 rfl ?_
    repeat' (first | exact rfl | (apply kO; (first | exact ov_pure rfl | (apply kOBin; (first | exact aBin | exact (ov_sub rfl rfl (by first | omega | (have := b1 k; have := b2 k; omega))))) | (apply kOCall; ((apply kCallF; (first | exact (ov_call rfl (fun w hw => c_isSide _ w)) | exact (ov_call rfl (fun w hw => c_isOrient _ w)) | exact (ov_call rfl (fun w hw => c_within _ _ _ w)))))))) | (refine kN ?_; (apply s_step)) | (refine kG ?_; (first | refine s_gyes rfl rfl rfl ?_ | refine s_gno rfl rfl rfl rfl rfl ?_ | ((refine s_split_n rfl rfl (fun h => ?_) (fun h => ?_)) <;> (try (first | contradiction | (exfalso; omega)))))) | refine l_then ?_ | (refine kC ?_; (first | (refine c_loopV (ι := Nat) (fun k => k ≤ (o % 4).toNat) (fun k => [(3, .int .i64 (oX wd ht (wd - 1 - x) y k)), (4, .int .i64 (oY wd ht (wd - 1 - x) y k)), (0, .int .i64 (oW wd ht k)), (1, .int .i64 (oW ht wd k)), (47, .int .i64 (k : Int))]) (fun _ => []) (fun k => (o % 4).toNat - k) 0 (by omega) rfl (fun _ => rfl) ⟨rfl, rfl, rfl, rfl, rfl, trivial⟩ (fun w hw => hw) (fun k hk => ?_)) | (refine c_loopV (ι := Nat) (fun k => k ≤ (o % 4).toNat) (fun k => [(3, .int .i64 (oX wd ht x y k)), (4, .int .i64 (oY wd ht x y k)), (0, .int .i64 (oW wd ht k)), (1, .int .i64 (oW ht wd k)), (47, .int .i64 (k : Int))]) (fun _ => []) (fun k => (o % 4).toNat - k) 0 (by omega) rfl (fun _ => rfl) ⟨rfl, rfl, rfl, rfl, rfl, trivial⟩ (fun w hw => hw) (fun k hk => ?_)) | refine c_seq ?_ | refine c_regionN rfl ?_ | refine c_ret ?_ | (refine kCond ?_; (first | refine c_cond_t rfl ?_ | ((first | refine c_cond_d rfl (fun h => ?_) (fun h => ?_) | refine c_cond_n rfl (fun h => ?_) (fun h => ?_)) <;> (try (first | contradiction | (exfalso; omega)))))) | refine c_block ?_ | refine c_skip ?_ | refine c_exit ?_)) | (refine kE ?_; (first | refine e_then_r ?_ | refine e_then_n ?_ | refine e_then_x ?_ | refine e_block_n ?_ | refine e_block_x ?_)) | refine l_ends ?_)
    all_goals first | exact e_round (k + 1) (by omega) ⟨slook_to rfl (vint_to (o_next _ _ _ _ k (by omega)).1.symm), slook_to rfl (vint_to (o_next _ _ _ _ k (by omega)).2.1.symm), slook_to rfl (vint_to (o_next wd ht (wd - 1 - x) y k (by omega)).2.2.1.symm), slook_to rfl (vint_to (o_next wd ht (wd - 1 - x) y k (by omega)).2.2.2.symm), rfl, (by repeat' first | exact trivial | refine ⟨rfl, ?_⟩)⟩ (fun w hw => hw) (by omega) | skip
    all_goals (have hk' : k = (o % 4).toNat := by omega)
    all_goals refine s_leave2 rfl rfl rfl (fun w hw => ⟨ret_pair ?_ ?_, hw.below⟩)
    all_goals (rw [hk', orientPoint, if_pos hok, orientPt_turns ho0]; first | rw [if_pos (by omega)] | rw [if_neg (by omega)])
  · have hok2 := hok
    unfold orientOk at hok2
    (first | apply SYields.mk | apply SYieldsF.mk | skip); refine s_enter Try.func164 rfl Try.ntmps164 rfl ?_
    repeat' (first | exact rfl | (apply kO; (first | exact ov_pure rfl | (apply kOBin; (first | exact aBin | exact (ov_sub rfl rfl (by omega)))) | (apply kOCall; ((apply kCallF; (first | exact (ov_call rfl (fun w hw => c_isSide _ w)) | exact (ov_call rfl (fun w hw => c_isOrient _ w)) | exact (ov_call rfl (fun w hw => c_within _ _ _ w)))))))) | (refine kN ?_; (apply s_step)) | (refine kG ?_; (first | refine s_gyes rfl rfl rfl ?_ | refine s_gno rfl rfl rfl rfl rfl ?_ | ((refine s_split_n rfl rfl (fun h => ?_) (fun h => ?_)) <;> (try (first | contradiction | (exfalso; omega)))))) | refine l_then ?_ | (refine kC ?_; (first | refine c_seq ?_ | refine c_regionN rfl ?_ | refine c_ret ?_ | (refine kCond ?_; (first | refine c_cond_t rfl ?_ | ((first | refine c_cond_d rfl (fun h => ?_) (fun h => ?_) | refine c_cond_n rfl (fun h => ?_) (fun h => ?_)) <;> (try (first | contradiction | (exfalso; omega)))))) | refine c_block ?_ | refine c_skip ?_ | refine c_exit ?_)) | (refine kE ?_; (first | refine e_then_r ?_ | refine e_then_n ?_ | refine e_then_x ?_ | refine e_block_n ?_ | refine e_block_x ?_)) | refine l_ends ?_)
    all_goals refine s_leave2 rfl rfl rfl (fun w hw => ⟨?_, hw.below⟩)
    all_goals (unfold orientPoint; rw [if_neg hok])
theorem c_sorientPoint (wd ht o x y : Int) (W : World) : SYields Try.prog 172 #[.int .i64 wd, .int .i64 ht, .int .i64 o, .int .i64 x, .int .i64 y] (.tuple #[.int .i64 (orientPoint wd ht o x y).1, .int .i64 (orientPoint wd ht o x y).2]) W := by
  by_cases hok : orientOk wd ht o ∧ (0 ≤ x ∧ x ≤ wd - 1) ∧ (0 ≤ y ∧ y ≤ ht - 1)
  · have hok' := hok
    unfold orientOk at hok'
    obtain ⟨⟨hw0, hh0, ho0⟩, hx0, hy0⟩ := hok'
    have b1 := fun k => o_bd hw0 hh0 hx0 hy0 k
    have b2 := fun k => o_bd (x := wd - 1 - x) hw0 hh0 (by omega) hy0 k
    have hm : (o % 4).toNat ≤ 3 := by omega
    (first | apply SYields.mk | apply SYieldsF.mk | skip); refine s_enter Try.func172 rfl Try.ntmps172 rfl ?_
    repeat' (first | exact rfl | (apply kO; (first | exact ov_pure rfl | (apply kOBin; (first | exact aBin | exact (ov_sub rfl rfl (by first | omega | (have := b1 k; have := b2 k; omega))))) | (apply kOCall; ((apply kCallF; (first | exact (ov_call rfl (fun w hw => c_l01In _ _ _ w)))))))) | (refine kN ?_; (apply s_step)) | (refine kG ?_; (first | refine s_gyes rfl rfl rfl ?_ | refine s_gno rfl rfl rfl rfl rfl ?_ | ((refine s_split_n rfl rfl (fun h => ?_) (fun h => ?_)) <;> (try (first | contradiction | (exfalso; omega)))))) | refine l_then ?_ | (refine kC ?_; (first | (refine c_loopV (ι := Nat) (fun k => k ≤ (o % 4).toNat) (fun k => [(3, .int .i64 (oX wd ht (wd - 1 - x) y k)), (4, .int .i64 (oY wd ht (wd - 1 - x) y k)), (0, .int .i64 (oW wd ht k)), (1, .int .i64 (oW ht wd k)), (12, .int .i64 (k : Int))]) (fun _ => []) (fun k => (o % 4).toNat - k) 0 (by omega) rfl (fun _ => rfl) ⟨rfl, rfl, rfl, rfl, rfl, trivial⟩ (fun w hw => hw) (fun k hk => ?_)) | (refine c_loopV (ι := Nat) (fun k => k ≤ (o % 4).toNat) (fun k => [(3, .int .i64 (oX wd ht x y k)), (4, .int .i64 (oY wd ht x y k)), (0, .int .i64 (oW wd ht k)), (1, .int .i64 (oW ht wd k)), (12, .int .i64 (k : Int))]) (fun _ => []) (fun k => (o % 4).toNat - k) 0 (by omega) rfl (fun _ => rfl) ⟨rfl, rfl, rfl, rfl, rfl, trivial⟩ (fun w hw => hw) (fun k hk => ?_)) | refine c_seq ?_ | refine c_regionN rfl ?_ | refine c_ret ?_ | (refine kCond ?_; (first | refine c_cond_t rfl ?_ | ((first | refine c_cond_d rfl (fun h => ?_) (fun h => ?_) | refine c_cond_n rfl (fun h => ?_) (fun h => ?_)) <;> (try (first | contradiction | (exfalso; omega)))))) | refine c_block ?_ | refine c_skip ?_ | refine c_exit ?_)) | (refine kE ?_; (first | refine e_then_r ?_ | refine e_then_n ?_ | refine e_then_x ?_ | refine e_block_n ?_ | refine e_block_x ?_)) | refine l_ends ?_)
    all_goals first | exact e_round (k + 1) (by omega) ⟨slook_to rfl (vint_to (o_next _ _ _ _ k (by omega)).1.symm), slook_to rfl (vint_to (o_next _ _ _ _ k (by omega)).2.1.symm), slook_to rfl (vint_to (o_next wd ht (wd - 1 - x) y k (by omega)).2.2.1.symm), slook_to rfl (vint_to (o_next wd ht (wd - 1 - x) y k (by omega)).2.2.2.symm), rfl, (by repeat' first | exact trivial | refine ⟨rfl, ?_⟩)⟩ (fun w hw => hw) (by omega) | skip
    all_goals (have hk' : k = (o % 4).toNat := by omega)
    all_goals refine s_leave2 rfl rfl rfl (fun w hw => ⟨ret_pair ?_ ?_, hw.below⟩)
    all_goals (rw [hk', orientPoint, if_pos hok, orientPt_turns ho0]; first | rw [if_pos (by omega)] | rw [if_neg (by omega)])
  · have hok2 := hok
    unfold orientOk at hok2
    (first | apply SYields.mk | apply SYieldsF.mk | skip); refine s_enter Try.func172 rfl Try.ntmps172 rfl ?_
    repeat' (first | exact rfl | (apply kO; (first | exact ov_pure rfl | (apply kOBin; (first | exact aBin | exact (ov_sub rfl rfl (by omega)))) | (apply kOCall; ((apply kCallF; (first | exact (ov_call rfl (fun w hw => c_l01In _ _ _ w)))))))) | (refine kN ?_; (apply s_step)) | (refine kG ?_; (first | refine s_gyes rfl rfl rfl ?_ | refine s_gno rfl rfl rfl rfl rfl ?_ | ((refine s_split_n rfl rfl (fun h => ?_) (fun h => ?_)) <;> (try (first | contradiction | (exfalso; omega)))))) | refine l_then ?_ | (refine kC ?_; (first | refine c_seq ?_ | refine c_regionN rfl ?_ | refine c_ret ?_ | (refine kCond ?_; (first | refine c_cond_t rfl ?_ | ((first | refine c_cond_d rfl (fun h => ?_) (fun h => ?_) | refine c_cond_n rfl (fun h => ?_) (fun h => ?_)) <;> (try (first | contradiction | (exfalso; omega)))))) | refine c_block ?_ | refine c_skip ?_ | refine c_exit ?_)) | (refine kE ?_; (first | refine e_then_r ?_ | refine e_then_n ?_ | refine e_then_x ?_ | refine e_block_n ?_ | refine e_block_x ?_)) | refine l_ends ?_)
    all_goals refine s_leave2 rfl rfl rfl (fun w hw => ⟨?_, hw.below⟩)
    all_goals (unfold orientPoint; rw [if_neg hok])
end Go.Proofs.Ytpcammhmgleonaa
namespace Go.Proofs.Ytpcammhmgleonaa
open Go Sx
attribute [local irreducible] Exit.then Exit.inBlock bodyPost
def ovk (t c : Int) : Nat → Int
  | 0 => 255
  | k + 1 => ovk t c k * 256 + (prt (chan t ((k : Int) + 1)) (chan t 0) + prt (chan c ((k : Int) + 1)) (255 - chan t 0))
theorem ovk_succ (t c : Int) (k : Nat) : ovk t c (k + 1) = ovk t c k * 256 + (prt (chan t ((k : Int) + 1)) (chan t 0) + prt (chan c ((k : Int) + 1)) (255 - chan t 0)) := rfl
theorem ovk_three {t c : Int} (ht : pixP t) (hc : pixP c) : ovk t c 3 = over t c := by unfold over; rw [if_pos ⟨ht, hc⟩]; rfl
theorem ovp_bd (t c k : Int) : (0 ≤ prt (chan t k) (chan t 0) ∧ prt (chan t k) (chan t 0) ≤ chan t 0) ∧ (0 ≤ prt (chan c k) (255 - chan t 0) ∧ prt (chan c k) (255 - chan t 0) ≤ 255 - chan t 0) ∧ (0 ≤ chan t 0 ∧ chan t 0 ≤ 255) := by
  have h0 := chan_bd t 0
  have h255 : byteP (255 - chan t 0) := by unfold byteP; omega
  have h1 := prt_bd (chan_bd t k) (chan_bd t 0)
  have h2 := prt_bd (chan_bd c k) h255
  exact ⟨h1.2, h2.2, h0⟩
theorem ovk_bd (t c : Int) {k : Nat} (hk : k ≤ 2) : 0 ≤ ovk t c k ∧ ovk t c k ≤ 16777215 := by
  have a := ovp_bd t c 1
  have d := ovp_bd t c 2
  have e1 : ovk t c 1 = 255 * 256 + (prt (chan t 1) (chan t 0) + prt (chan c 1) (255 - chan t 0)) := rfl
  have e2 : ovk t c 2 = ovk t c 1 * 256 + (prt (chan t 2) (chan t 0) + prt (chan c 2) (255 - chan t 0)) := rfl
  match k, hk with
  | 0, _ => exact ⟨show (0 : Int) ≤ 255 by decide, show (255 : Int) ≤ 16777215 by decide⟩
  | 1, _ => rw [e1]; omega
  | 2, _ => rw [e2, e1]; omega
theorem c_iover (t c : Int) (w : World) (ht : pixP t) (hc : pixP c) : SYields Try.prog 142 #[.int .i64 t, .int .i64 c] (.int .i64 (over t c)) w := by
  have hb := fun (k : Nat) (hk : k ≤ 2) => ovk_bd t c hk
  have hp := ovp_bd t c
  have ht' := ht
  have hc' := hc
  unfold pixP at ht' hc'
  (first | apply SYields.mk | apply SYieldsF.mk | skip); refine s_enter Try.func142 rfl Try.ntmps142 rfl ?_
  repeat' (first | exact rfl | (apply kO; (first | exact ov_pure rfl | (apply kOBin; (first | exact aBin | exact (ov_sub rfl rfl (by have := hp 0; omega)) | exact (ov_shlN 8 256 (by decide) (by decide) rfl rfl (by have := hb j (by omega); omega)) | exact (ov_orS 8 (by decide) rfl rfl (by have := hb j (by omega); omega) (by have := hp ((j : Int) + 1); omega)) | exact (ov_add rfl rfl (by have := hb j (by omega); have := hp ((j : Int) + 1); omega)))) | (apply kOCall; ((apply kCallF; (first | exact (ov_call rfl (fun w hw => c_isPixel _ w)) | exact (ov_call rfl (fun w hw => c_channel _ _ w (by omega))) | exact (ov_call rfl (fun w hw => c_ipart _ _ w)))))))) | (refine kN ?_; (apply s_step)) | (refine kG ?_; (first | refine s_gyes rfl rfl rfl ?_ | ((refine s_split_n rfl rfl (fun h => ?_) (fun h => ?_)) <;> (try (first | contradiction | (exfalso; omega)))))) | refine l_then ?_ | (refine kC ?_; (first | (refine c_loopV (ι := Nat) (fun j => j ≤ 3) (fun j => [(6, .int .i64 (ovk t c j)), (7, .int .i64 ((j : Int) + 1))]) (fun _ => []) (fun j => 3 - j) 0 (by omega) rfl (fun _ => rfl) ⟨rfl, rfl, trivial⟩ (fun w hw => hw) (fun j hj => ?_)) | refine c_seq ?_ | refine c_regionN rfl ?_ | refine c_ret ?_ | (refine kCond ?_; (((first | refine c_cond_d rfl (fun h => ?_) (fun h => ?_) | refine c_cond_n rfl (fun h => ?_) (fun h => ?_)) <;> (try (first | contradiction | (exfalso; omega)))))) | refine c_block ?_ | refine c_skip ?_ | refine c_exit ?_)) | (refine kE ?_; (first | refine e_then_n ?_ | refine e_then_x ?_ | refine e_block_n ?_ | refine e_block_x ?_)) | refine l_ends ?_)
  · exact e_round (j + 1) (by omega) ⟨slook_to rfl (vint_to (by rw [ovk_succ]; omega)), slook_to rfl (vint_to (by push_cast; rfl)), (by repeat' first | exact trivial | refine ⟨rfl, ?_⟩)⟩ (fun w hw => hw) (by omega)
  · obtain rfl : j = 3 := by omega
    exact s_leave1 rfl rfl (fun w hw => ⟨ret_int (ovk_three ht hc), hw.below⟩)
theorem c_sover (t c : Int) (w : World) (ht : pixP t) (hc : pixP c) : SYields Try.prog 44 #[.int .i64 t, .int .i64 c] (.int .i64 (over t c)) w := by
  have hb := fun (k : Nat) (hk : k ≤ 2) => ovk_bd t c hk
  have hp := ovp_bd t c
  have ht' := ht
  have hc' := hc
  unfold pixP at ht' hc'
  (first | apply SYields.mk | apply SYieldsF.mk | skip); refine s_enter Try.func44 rfl Try.ntmps44 rfl ?_
  repeat' (first | exact rfl | (apply kO; (first | exact ov_pure rfl | (apply kOBin; (first | exact aBin | exact (ov_sub rfl rfl (by have := hp 0; omega)) | exact (ov_shlN 8 256 (by decide) (by decide) rfl rfl (by have := hb j (by omega); omega)) | exact (ov_add rfl rfl (by have := hb j (by omega); have := hp ((j : Int) + 1); omega)))) | (apply kOCall; ((apply kCallF; (first | exact (ov_call rfl (fun w hw => c_l04Pixel _ w)) | exact (ov_call rfl (fun w hw => c_schannelIn _ _ w (by omega) (by omega))) | exact (ov_call rfl (fun w hw => c_spart _ _ w)))))))) | (refine kN ?_; (apply s_step)) | (refine kG ?_; (first | refine s_gyes rfl rfl rfl ?_ | ((refine s_split_n rfl rfl (fun h => ?_) (fun h => ?_)) <;> (try (first | contradiction | (exfalso; omega)))))) | refine l_then ?_ | (refine kC ?_; (first | (refine c_loopV (ι := Nat) (fun j => j ≤ 3) (fun j => [(6, .int .i64 (ovk t c j)), (7, .int .i64 ((j : Int) + 1))]) (fun _ => []) (fun j => 3 - j) 0 (by omega) rfl (fun _ => rfl) ⟨rfl, rfl, trivial⟩ (fun w hw => hw) (fun j hj => ?_)) | refine c_seq ?_ | refine c_regionN rfl ?_ | refine c_ret ?_ | (refine kCond ?_; (((first | refine c_cond_d rfl (fun h => ?_) (fun h => ?_) | refine c_cond_n rfl (fun h => ?_) (fun h => ?_)) <;> (try (first | contradiction | (exfalso; omega)))))) | refine c_block ?_ | refine c_skip ?_ | refine c_exit ?_)) | (refine kE ?_; (first | refine e_then_n ?_ | refine e_then_x ?_ | refine e_block_n ?_ | refine e_block_x ?_)) | refine l_ends ?_)
  · exact e_round (j + 1) (by omega) ⟨slook_to rfl (vint_to (by rw [ovk_succ]; omega)), slook_to rfl (vint_to (by push_cast; rfl)), (by repeat' first | exact trivial | refine ⟨rfl, ?_⟩)⟩ (fun w hw => hw) (by omega)
  · obtain rfl : j = 3 := by omega
    exact s_leave1 rfl rfl (fun w hw => ⟨ret_int (ovk_three ht hc), hw.below⟩)
theorem c_inewImage (p q r : Int) (W : World) (hp : 1 ≤ p ∧ p ≤ 16) (hq : 1 ≤ q ∧ q ≤ 16) (hr : pixP r) : SYieldsF Try.prog 103 #[.int .i64 p, .int .i64 q, .int .i64 r] (fun u H => OImg u ⟨p, q, List.replicate (p * q).toNat r⟩ H) W := by
  have hwh := side_mul (w := p) (h := q) ⟨hp.1, hp.2, hq.1, hq.2⟩
  have hr' := hr
  unfold pixP at hr'
  (first | apply SYields.mk | apply SYieldsF.mk | skip); refine s_enter Try.func103 rfl Try.ntmps103 rfl ?_
  repeat' (first | exact rfl | (apply kO; (first | exact ov_pure rfl | (apply kOBin; (first | exact aBin)) | (apply kOCall; ((apply kCallF; (first | exact (ov_call rfl (fun w hw => c_isSide _ w)) | exact (ov_call rfl (fun w hw => c_isPixel _ w)))))) | exact aNew)) | (refine kN ?_; (first | (refine kCall ?_; (first | (refine kWFn 140 ?_; (refine s_callF (fun u H => OInts 3 u (List.replicate (p * q).toNat r) H) rfl (fun w hw => c_repeat _ r (p * q) w (OInts.reads (OInts.whole 3 _ [r] (Nat.le_of_ble_eq_true rfl)) (hfA hw)) (by omega)) rfl (fun u H hu => ?_); have f4 := hu.form; obtain ⟨ga, gc, rfl⟩ := f4)) | apply s_step)) | (refine kStore ?_; (first | refine s_storeS _ rfl rfl gpA rfl rfl (by rfl) ?_ | refine s_storeS _ rfl rfl gpA rfl (ones_img oiA) (by rfl) ?_)) | refine s_allocS rfl (fun b hb => ?_) | refine s_buildSlice rfl rfl rfl rfl rfl (fun b hb => ?_) | apply s_step)) | (refine kG ?_; (first | refine s_gyes rfl rfl rfl ?_ | ((refine s_split_n rfl rfl (fun h => ?_) (fun h => ?_)) <;> (try (first | contradiction | (exfalso; omega)))))) | refine l_then ?_ | (refine kC ?_; (first | refine c_seq ?_ | refine c_regionN rfl ?_ | refine c_ret ?_ | (refine kCond ?_; (((refine c_cond_n rfl (fun h => ?_) (fun h => ?_)) <;> (try (first | contradiction | (exfalso; omega)))))) | refine c_skip ?_)) | (refine kE ?_; (refine e_then_n ?_)))
  all_goals (refine s_leaveSF rfl rfl rfl fwA (fun w hw => ⟨_, _, rfl, ⟨_, rfl, hu⟩, hw.toFresh (H := H) gpA⟩))
end Go.Proofs.Ytpcammhmgleonaa
namespace Go.Proofs.Ytpcammhmgleonaa
open Go Sx
attribute [local irreducible] Exit.then Exit.inBlock bodyPost
def rowV (g : Grid) (y : Nat) : Value := .int .i64 (Sx.bits (g y) 16 : Nat)
abbrev gcells (g : Grid) : List Value := [rowV g 0, rowV g 1, rowV g 2, rowV g 3, rowV g 4, rowV g 5, rowV g 6, rowV g 7, rowV g 8, rowV g 9, rowV g 10, rowV g 11, rowV g 12, rowV g 13, rowV g 14, rowV g 15]
abbrev gval (g : Grid) : Value := .agg #[rowV g 0, rowV g 1, rowV g 2, rowV g 3, rowV g 4, rowV g 5, rowV g 6, rowV g 7, rowV g 8, rowV g 9, rowV g 10, rowV g 11, rowV g 12, rowV g 13, rowV g 14, rowV g 15]
def gl (g : Grid) : List Value := (List.range 16).map (rowV g)
theorem gl_eq (g : Grid) : gl g = gcells g := rfl
theorem gl_get (g : Grid) {y : Nat} (h : y < 16) : (gl g)[y]? = some (rowV g y) := by simp [gl, h]
theorem rowV_congr {g h : Grid} (e : g.eqv h) {y : Nat} (hy : y < 16) : rowV g y = rowV h y := by
  unfold rowV; rw [bits_congr 16 (fun i hi => e y i hy hi)]
theorem gl_congr {g h : Grid} (e : g.eqv h) : gl g = gl h := List.map_congr_left (fun y hy => rowV_congr e (List.mem_range.1 hy))
theorem gval_congr {g h : Grid} (e : g.eqv h) : gval g = gval h := by
  have := gl_congr e
  rw [gl_eq, gl_eq] at this
  show Value.agg (gcells g).toArray = Value.agg (gcells h).toArray
  rw [this]
def Grid.row (g : Grid) (y : Nat) (f : Nat → Bool) : Grid := fun b => if b = y then f else g b
theorem gl_set (g : Grid) {y : Nat} (hy : y < 16) (f : Nat → Bool) : (gl g).set y (.int .i64 (Sx.bits f 16 : Nat)) = gl (Grid.row g y f) := by
  apply List.ext_getElem?
  intro q
  rw [List.getElem?_set]
  by_cases hq : q < 16
  · rw [gl_get g hq, gl_get _ hq]
    unfold rowV Grid.row
    by_cases e : y = q
    · subst e; simp [gl, hy]
    · have e' : ¬ q = y := fun hh => e hh.symm
      simp [e, e']
  · have h1 : (gl g).length ≤ q := by simp [gl]; omega
    have h2 : (gl (Grid.row g y f)).length ≤ q := by simp [gl]; omega
    rw [List.getElem?_eq_none h1, List.getElem?_eq_none h2, if_neg (by omega)]
theorem bits16 (f : Nat → Bool) : 0 ≤ ((Sx.bits f 16 : Nat) : Int) ∧ ((Sx.bits f 16 : Nat) : Int) ≤ 65535 := by
  have := bits_lt f 16
  omega
section
variable {P : Program} {n : Nat} {lo : SMut} {s : World} {E : SEnv} {L : SHeap} {d : Option Tmp} {ty : TypeId} {pos : String} {after : Array Edge} {g0 : Option (Nat × Bool)} {x y : Operand} {xt yt : TypeId}
theorem ov_buildA0 {t e : TypeId} {len : Nat} {zl : List Value} {ze : Value} {k by_ ke be : Nat} [hu : SUnd P t (.array len e)] [hi : SInf P t (.agg zl.toArray) k by_] [he : SInf P e ze ke be] :
    SOpV P n lo s E L ⟨d, .build t #[], ty, pos, after, g0⟩ (.agg zl.toArray) :=
  SOpV.of_run fun a ha w hw => by
    obtain ⟨i1, h1, h2, h3, h4⟩ := hi.out
    obtain ⟨i2, q1, q2, q3, q4⟩ := he.out
    have hb : P.built t ([] : List (Nat × Value)) = some zl.toArray := by
      unfold Program.built
      simp only [h1, hu.h, h2, q1]
      rfl
    have := run_build w t #[] zl.toArray hb
    simp [execOp, this]
theorem ov_ldG (g : Grid) {t : TypeId} {b i j : Nat} {td : TypeDesc} {T : TypeId} [hu : SUnd P t td] (hx : sval E x = some (.pointer (some ⟨b, 0 + j * 1, none⟩))) (hr : sisRow td = false) (hL : getL L i = some [(b, srow (gl g) T)]) (hj : j < 16) :
    SOpV P n lo s E L ⟨d, .load t x, ty, pos, after, g0⟩ (.int .i64 (Sx.bits (g j) 16 : Nat)) :=
  ov_load hx hr (getL_flat hL (List.mem_singleton.2 rfl)) (by rw [snth_eq, Nat.zero_add, Nat.mul_one]; exact gl_get g hj)
theorem ov_orG {f h : Nat → Bool} (hx : sval E x = some (.int .i64 (Sx.bits f 16 : Nat))) (hy : sval E y = some (.int .i64 (Sx.bits h 16 : Nat))) :
    SOpV P n lo s E L ⟨d, .binOp .or xt x y yt, ty, pos, after, g0⟩ (.int .i64 (Sx.bits (fun i => f i || h i) 16 : Nat)) := by
  have h1 := bits16 f
  have h2 := bits16 h
  have := ov_or (P := P) (n := n) (lo := lo) (s := s) (L := L) (d := d) (ty := ty) (pos := pos) (after := after) (g := g0) (xt := xt) (yt := yt) hx hy (by omega) (by omega)
  rw [Int.toNat_natCast, Int.toNat_natCast, bits_or] at this
  exact this
theorem ov_andG {f h : Nat → Bool} (hx : sval E x = some (.int .i64 (Sx.bits f 16 : Nat))) (hy : sval E y = some (.int .i64 (Sx.bits h 16 : Nat))) :
    SOpV P n lo s E L ⟨d, .binOp .and xt x y yt, ty, pos, after, g0⟩ (.int .i64 (Sx.bits (fun i => f i && h i) 16 : Nat)) := by
  have h1 := bits16 f
  have h2 := bits16 h
  have := ov_and (P := P) (n := n) (lo := lo) (s := s) (L := L) (d := d) (ty := ty) (pos := pos) (after := after) (g := g0) (xt := xt) (yt := yt) hx hy (by omega) (by omega)
  rw [Int.toNat_natCast, Int.toNat_natCast, bits_and] at this
  exact this
theorem ov_bit {kj : IntKind} {j : Int} (hx : sval E x = some (.int .i64 1)) (hy : sval E y = some (.int kj j)) (hj : 0 ≤ j ∧ j ≤ 16) :
    SOpV P n lo s E L ⟨d, .binOp .shl xt x y yt, ty, pos, after, g0⟩ (.int .i64 ((2 ^ j.toNat : Nat) : Int)) := by
  have hp : (2 : Nat) ^ j.toNat ≤ 2 ^ 16 := Nat.pow_le_pow_right (by omega) (by omega)
  have e : (1 : Int) * 2 ^ j.toNat = ((2 ^ j.toNat : Nat) : Int) := by push_cast; omega
  have hm : ∀ m : Nat, m ≤ 2 ^ 16 → -9223372036854775808 ≤ (m : Int) ∧ (m : Int) ≤ 9223372036854775807 := fun m h => by omega
  have := ov_shl (P := P) (n := n) (lo := lo) (s := s) (L := L) (d := d) (ty := ty) (pos := pos) (after := after) (g := g0) (xt := xt) (yt := yt) hx hy (by omega) (by rw [e]; exact hm _ hp)
  rw [e] at this
  exact this
theorem ov_andBit {f : Nat → Bool} {j : Nat} (hx : sval E x = some (.int .i64 (Sx.bits f 16 : Nat))) (hy : sval E y = some (.int .i64 ((2 ^ j : Nat) : Int))) (hj : j < 16) :
    SOpV P n lo s E L ⟨d, .binOp .and xt x y yt, ty, pos, after, g0⟩ (.int .i64 (if f j = true then ((2 ^ j : Nat) : Int) else 0)) := by
  have h1 := bits16 f
  have hp : (2 : Nat) ^ j ≤ 2 ^ 16 := Nat.pow_le_pow_right (by omega) (by omega)
  have hm : ∀ m : Nat, m ≤ 2 ^ 16 → 0 ≤ (m : Int) ∧ (m : Int) ≤ 9223372036854775807 := fun m h => by omega
  have := ov_and (P := P) (n := n) (lo := lo) (s := s) (L := L) (d := d) (ty := ty) (pos := pos) (after := after) (g := g0) (xt := xt) (yt := yt) hx hy (by omega) (hm _ hp)
  rw [Int.toNat_natCast, Int.toNat_natCast, bits_and_bit f hj] at this
  split at this
  · rename_i h; rw [if_pos h]; exact this
  · rename_i h; rw [if_neg h]; exact this
end
theorem bit_ne {p : Bool} {j : Nat} : (if p = true then ((2 ^ j : Nat) : Int) else 0) ≠ 0 ↔ p = true := by
  have h2 : 0 < 2 ^ j := Nat.pow_pos (by omega)
  cases p
  · simp
  · have hm : ∀ m : Nat, 0 < m → (m : Int) ≠ 0 := fun m h => by omega
    rw [if_pos rfl]
    exact ⟨fun _ => rfl, fun _ => hm _ h2⟩
end Go.Proofs.Ytpcammhmgleonaa
namespace Sx
def boxTo (r : DRect) (f old : Int → Int → Int) (j i : Nat) (x y : Int) : Int :=
  if (r.X ≤ x ∧ x < r.X + r.W ∧ r.Y ≤ y) ∧ (y < r.Y + j ∨ (y = r.Y + j ∧ x < r.X + i)) then f x y else old x y
theorem boxTo_zero (r : DRect) (f old : Int → Int → Int) : boxTo r f old 0 0 = old := by
  funext x y; unfold boxTo; rw [if_neg (by omega)]
theorem boxTo_here (r : DRect) (f old : Int → Int → Int) (j i : Nat) : boxTo r f old j i (r.X + i) (r.Y + j) = old (r.X + i) (r.Y + j) := by
  unfold boxTo; rw [if_neg (by omega)]
theorem boxTo_next {r : DRect} {f old : Int → Int → Int} {j i : Nat} (hi : (i : Int) < r.W) : boxTo r f old j (i + 1) = fun x y => if x = r.X + i ∧ y = r.Y + j then f (r.X + i) (r.Y + j) else boxTo r f old j i x y := by
  funext x y
  by_cases e : x = r.X + i ∧ y = r.Y + j
  · obtain ⟨rfl, rfl⟩ := e
    rw [if_pos ⟨rfl, rfl⟩]
    unfold boxTo; rw [if_pos (by omega)]
  · rw [if_neg e]
    unfold boxTo
    by_cases e2 : (r.X ≤ x ∧ x < r.X + r.W ∧ r.Y ≤ y) ∧ (y < r.Y + j ∨ (y = r.Y + j ∧ x < r.X + i))
    · rw [if_pos e2, if_pos (by omega)]
    · rw [if_neg e2, if_neg (by omega)]
theorem boxTo_row {r : DRect} {f old : Int → Int → Int} {j i : Nat} (hi : r.W ≤ (i : Int)) : boxTo r f old j i = boxTo r f old (j + 1) 0 := by
  funext x y
  unfold boxTo
  by_cases e2 : (r.X ≤ x ∧ x < r.X + r.W ∧ r.Y ≤ y) ∧ (y < r.Y + j ∨ (y = r.Y + j ∧ x < r.X + i))
  · rw [if_pos e2, if_pos (by omega)]
  · rw [if_neg e2, if_neg (by omega)]
theorem boxTo_all {r : DRect} {f old : Int → Int → Int} {j : Nat} (hj : (j : Int) = r.H) (x y : Int) : boxTo r f old j 0 x y = if r.X ≤ x ∧ x < r.X + r.W ∧ r.Y ≤ y ∧ y < r.Y + r.H then f x y else old x y := by
  unfold boxTo
  by_cases e : r.X ≤ x ∧ x < r.X + r.W ∧ r.Y ≤ y ∧ y < r.Y + r.H
  · rw [if_pos e, if_pos (by omega)]
  · rw [if_neg e, if_neg (by omega)]
theorem has_iff {r : DRect} (h : r.ok) (x y : Int) : r.has x y ↔ r.X ≤ x ∧ x < r.X + r.W ∧ r.Y ≤ y ∧ y < r.Y + r.H := by
  unfold DRect.has; constructor
  · rintro ⟨_, h2⟩; omega
  · intro h2; exact ⟨h, by omega⟩
theorem box_layer {s : DSurf} {w h : Int} (hw : 1 ≤ w ∧ w ≤ 16) (hh : 1 ≤ h ∧ h ≤ 16) (old : Int → Int → Int) {j : Nat} (hj : (j : Int) = ((surfRect s).inter ⟨0, 0, w, h⟩).H) {x y : Int} (hx : 0 ≤ x ∧ x < w) (hy : 0 ≤ y ∧ y < h) :
    boxTo ((surfRect s).inter ⟨0, 0, w, h⟩) (fun a b => over (pixOf s a b) (old a b)) old j 0 x y = layer s x y (old x y) := by
  have hb : (⟨0, 0, w, h⟩ : DRect).ok := by unfold DRect.ok; dsimp only; omega
  have hi := (DRect.inter_ok (surfRect_ok s) hb).1
  have h1 := inter_has (surfRect_ok s) hb x y
  have h2 := has_iff hi x y
  have h3 := has_iff hb x y
  dsimp only at h3
  rw [boxTo_all hj]
  unfold layer
  by_cases e : (surfRect s).has x y
  · rw [if_pos e, if_pos (h2.1 (h1.2 ⟨e, h3.2 (by omega)⟩))]
  · rw [if_neg e, if_neg (fun hh => e (h1.1 (h2.2 hh)).1)]
theorem one_layer {s : DSurf} (hs : s.ok) (hv : s.Visible = true) {g : Grid} (old : Int → Int → Int) {x y : Int} (hg : inG g x y = true) : oneTo s g old ((surfSize s).1 * (surfSize s).2).toNat x y = layer s x y (old x y) := by
  rw [oneTo_all hs]
  unfold layer
  rw [surfRect_vis hs hv, hg]
  by_cases e : (rawRect s).has x y
  · rw [if_pos ⟨e, rfl⟩, if_pos e]
  · rw [if_neg (fun hh => e hh.1), if_neg e]
theorem hid_layer {s : DSurf} (hv : ¬ s.Visible = true) (x y b : Int) : layer s x y b = b := by
  unfold layer; rw [surfRect_hid hv, if_neg (zero_has x y)]
def hitN (s : DSurf) (g : Grid) (w h : Int) : Nat → Int
  | 0 => 0
  | k + 1 => hitN s g w h k + (if ((0 ≤ kx s k ∧ kx s k ≤ w - 1) ∧ (0 ≤ ky s k ∧ ky s k ≤ h - 1)) ∧ inG g (kx s k) (ky s k) = true then 1 else 0)
theorem hitN_bd (s : DSurf) (g : Grid) (w h : Int) : ∀ k : Nat, 0 ≤ hitN s g w h k ∧ hitN s g w h k ≤ k
  | 0 => ⟨Int.le_refl _, Int.le_refl _⟩
  | k + 1 => by have := hitN_bd s g w h k; unfold hitN; split <;> omega
theorem one_miss {s : DSurf} (hs : s.ok) {g : Grid} {old : Int → Int → Int} {w h : Int} (hw : 1 ≤ w) {k : Nat} (hk : k < ((surfSize s).1 * (surfSize s).2).toNat)
    (hn : ¬ (((0 ≤ kx s k ∧ kx s k ≤ w - 1) ∧ (0 ≤ ky s k ∧ ky s k ≤ h - 1)) ∧ inG g (kx s k) (ky s k) = true)) :
    mapTo (oneTo s g old (k + 1)) w (w * h).toNat = mapTo (oneTo s g old k) w (w * h).toNat ∧ hitN s g w h (k + 1) = hitN s g w h k := by
  refine ⟨mapTo_congr hw (fun x y h1 h2 h3 h4 => oneTo_miss hs g old hk x y (fun hh => hn ?_)), by unfold hitN; rw [if_neg hn, Int.add_zero]; cases k <;> rfl⟩
  obtain ⟨rfl, rfl, hg⟩ := hh
  exact ⟨⟨⟨h1, by omega⟩, h3, by omega⟩, hg⟩
theorem one_hit {s : DSurf} (hs : s.ok) {g : Grid} {old : Int → Int → Int} {w h : Int} {k : Nat} (hk : k < ((surfSize s).1 * (surfSize s).2).toNat)
    (hx : 0 ≤ kx s k ∧ kx s k ≤ w - 1) (hy : 0 ≤ ky s k ∧ ky s k ≤ h - 1) (hg : inG g (kx s k) (ky s k) = true) :
    (mapTo (oneTo s g old k) w (w * h).toNat).set (ky s k * w + kx s k).toNat (over ((pictureOf s).data.getD k 0) ((mapTo (oneTo s g old k) w (w * h).toNat).getD (ky s k * w + kx s k).toNat 0)) = mapTo (oneTo s g old (k + 1)) w (w * h).toNat
    ∧ hitN s g w h k + 1 = hitN s g w h (k + 1) := by
  constructor
  · rw [mapTo_at (oneTo s g old k) (w := w) (h := h) ⟨hx.1, by omega⟩ ⟨hy.1, by omega⟩, mapTo_set (oneTo s g old k) (w := w) (h := h) ⟨hx.1, by omega⟩ ⟨hy.1, by omega⟩]
    congr 1
    funext a b
    rw [oneTo_hit hs g old hk hg a b]
  · conv => rhs; unfold hitN
    rw [if_pos ⟨⟨hx, hy⟩, hg⟩]
theorem newPaint (s : DScene) : mapTo (paintTo s 0) s.W (s.W * s.H).toNat = List.replicate (s.W * s.H).toNat s.Back := by
  apply List.ext_getElem?
  intro q
  rw [List.getElem?_replicate]
  unfold mapTo
  rw [List.getElem?_map]
  by_cases e : q < (s.W * s.H).toNat
  · rw [List.getElem?_range e, if_pos e]; rfl
  · rw [List.getElem?_eq_none (by rw [List.length_range]; omega), if_neg e]; rfl
theorem screen_in {w h x y : Int} (hw : 1 ≤ w ∧ w ≤ 16) (hh : 1 ≤ h ∧ h ≤ 16) (hx : 0 ≤ x ∧ x < w) (hy : 0 ≤ y ∧ y < h) : inG (rectG ⟨0, 0, w, h⟩) x y = true := by
  unfold inG rectG DRect.holds DRect.has DRect.ok
  exact decide_eq_true (by dsimp only; omega)
theorem painted_step {s : DScene} (h : s.ok) {k : Nat} (hk : k < s.ss.length) (hv : (s.ss.getD k default).Visible = true) :
    mapTo (oneTo (s.ss.getD k default) (rectG ⟨0, 0, s.W, s.H⟩) (paintTo s k) ((surfSize (s.ss.getD k default)).1 * (surfSize (s.ss.getD k default)).2).toNat) s.W (s.W * s.H).toNat = mapTo (paintTo s (k + 1)) s.W (s.W * s.H).toNat :=
  mapTo_congr h.1.1 (fun x y h1 h2 h3 h4 => by rw [one_layer (getD_ok h hk) hv _ (screen_in h.1 h.2.1 ⟨h1, h2⟩ ⟨h3, h4⟩), paintTo_succ hk])
theorem painted_skip {s : DScene} {k : Nat} (hk : k < s.ss.length) (hv : ¬ (s.ss.getD k default).Visible = true) : paintTo s (k + 1) = paintTo s k := by
  funext x y; rw [paintTo_succ hk, hid_layer hv]
theorem box_at {s : DSurf} (hs : s.ok) {w h : Int} (hw : 1 ≤ w ∧ w ≤ 16) (hh : 1 ≤ h ∧ h ≤ 16) {j i : Nat} (hi : (i : Int) < ((surfRect s).inter ⟨0, 0, w, h⟩).W) (hj : (j : Int) < ((surfRect s).inter ⟨0, 0, w, h⟩).H) :
    (0 ≤ ((surfRect s).inter ⟨0, 0, w, h⟩).X + i ∧ ((surfRect s).inter ⟨0, 0, w, h⟩).X + i < w) ∧ (0 ≤ ((surfRect s).inter ⟨0, 0, w, h⟩).Y + j ∧ ((surfRect s).inter ⟨0, 0, w, h⟩).Y + j < h)
    ∧ (0 ≤ ((surfRect s).inter ⟨0, 0, w, h⟩).X + i - (surfRect s).X ∧ ((surfRect s).inter ⟨0, 0, w, h⟩).X + i - (surfRect s).X < (pictureOf s).W) ∧ (0 ≤ ((surfRect s).inter ⟨0, 0, w, h⟩).Y + j - (surfRect s).Y ∧ ((surfRect s).inter ⟨0, 0, w, h⟩).Y + j - (surfRect s).Y < (pictureOf s).H)
    ∧ (surfRect s).X = s.X ∧ (surfRect s).Y = s.Y := by
  have hb : (⟨0, 0, w, h⟩ : DRect).ok := by unfold DRect.ok; dsimp only; omega
  have ho := (DRect.inter_ok (surfRect_ok s) hb).1
  have h0 : ((surfRect s).inter ⟨0, 0, w, h⟩).has (((surfRect s).inter ⟨0, 0, w, h⟩).X + i) (((surfRect s).inter ⟨0, 0, w, h⟩).Y + j) := ⟨ho, by omega⟩
  have h1 := (inter_has (surfRect_ok s) hb _ _).1 h0
  have h2 := h1.2.2
  dsimp only at h2
  by_cases hv : s.Visible = true
  · rw [surfRect_vis hs hv] at h1 ⊢
    have h3 := h1.1.2
    have hz := surfSize_pic hs
    rw [surfRect_vis hs hv] at h2
    unfold rawRect at h3 ⊢
    dsimp only at h3 ⊢
    unfold rawRect at h2
    rw [hz.1, hz.2]
    omega
  · rw [surfRect_hid hv] at h1; exact absurd h1.1 (zero_has _ _)
theorem pixOf_pix (s : DSurf) (x y : Int) : pixP (pixOf s x y) := by
  by_cases h : s.ok
  · exact (pictureOf_ok h).at_pix _ _
  · unfold pixOf pictureOf
    rw [if_neg h]
    unfold DImg.at DImg.zero pixP
    simp
theorem over_pixP {t b : Int} (ht : pixP t) (hb : pixP b) : pixP (over t b) := by
  have := over_bd ht hb; unfold pixP; omega
theorem boxTo_pix {r : DRect} {f old : Int → Int → Int} (hf : ∀ x y, pixP (f x y)) (ho : ∀ x y, pixP (old x y)) (j i : Nat) (x y : Int) : pixP (boxTo r f old j i x y) := by
  unfold boxTo; split
  · exact hf x y
  · exact ho x y
theorem box_bd {s : DSurf} {w h : Int} (hw : 1 ≤ w ∧ w ≤ 16) (hh : 1 ≤ h ∧ h ≤ 16) : ((-1000 ≤ ((surfRect s).inter ⟨0, 0, w, h⟩).X ∧ ((surfRect s).inter ⟨0, 0, w, h⟩).X ≤ 1000) ∧ (-1000 ≤ ((surfRect s).inter ⟨0, 0, w, h⟩).Y ∧ ((surfRect s).inter ⟨0, 0, w, h⟩).Y ≤ 1000)) ∧ (0 ≤ ((surfRect s).inter ⟨0, 0, w, h⟩).W ∧ ((surfRect s).inter ⟨0, 0, w, h⟩).W ≤ 16) ∧ (0 ≤ ((surfRect s).inter ⟨0, 0, w, h⟩).H ∧ ((surfRect s).inter ⟨0, 0, w, h⟩).H ≤ 16) := by
  have hb : (⟨0, 0, w, h⟩ : DRect).ok := by unfold DRect.ok; dsimp only; omega
  have ho := DRect.inter_ok (surfRect_ok s) hb
  have h1 := ho.1
  have h2 := ho.2.1
  have h3 := ho.2.2.1
  unfold DRect.ok at h1
  dsimp only at h2 h3
  omega
theorem box_step {s : DSurf} (hs : s.ok) {w h : Int} (hw : 1 ≤ w ∧ w ≤ 16) (hh : 1 ≤ h ∧ h ≤ 16) (old : Int → Int → Int) {j i : Nat} (hi : (i : Int) < ((surfRect s).inter ⟨0, 0, w, h⟩).W) (hj : (j : Int) < ((surfRect s).inter ⟨0, 0, w, h⟩).H) :
    (mapTo (boxTo ((surfRect s).inter ⟨0, 0, w, h⟩) (fun a c => over (pixOf s a c) (old a c)) old j i) w (w * h).toNat).set ((((surfRect s).inter ⟨0, 0, w, h⟩).Y + j) * w + (((surfRect s).inter ⟨0, 0, w, h⟩).X + i)).toNat (over ((pictureOf s).data.getD ((((surfRect s).inter ⟨0, 0, w, h⟩).Y + j - (surfRect s).Y) * (pictureOf s).W + (((surfRect s).inter ⟨0, 0, w, h⟩).X + i) - (surfRect s).X).toNat 0) ((mapTo (boxTo ((surfRect s).inter ⟨0, 0, w, h⟩) (fun a c => over (pixOf s a c) (old a c)) old j i) w (w * h).toNat).getD ((((surfRect s).inter ⟨0, 0, w, h⟩).Y + j) * w + (((surfRect s).inter ⟨0, 0, w, h⟩).X + i)).toNat 0))
    = mapTo (boxTo ((surfRect s).inter ⟨0, 0, w, h⟩) (fun a c => over (pixOf s a c) (old a c)) old j (i + 1)) w (w * h).toNat := by
  have hb := box_at hs hw hh hi hj
  rw [mapTo_at _ hb.1 hb.2.1, boxTo_here, mapTo_set _ hb.1 hb.2.1, boxTo_next hi]
  have e : (((surfRect s).inter ⟨0, 0, w, h⟩).Y + j - (surfRect s).Y) * (pictureOf s).W + (((surfRect s).inter ⟨0, 0, w, h⟩).X + i) - (surfRect s).X = (((surfRect s).inter ⟨0, 0, w, h⟩).Y + j - s.Y) * (pictureOf s).W + (((surfRect s).inter ⟨0, 0, w, h⟩).X + i - s.X) := by
    rw [hb.2.2.2.2.1, hb.2.2.2.2.2]; omega
  rw [e]
  rfl
theorem box_done {s : DScene} (h : s.ok) {k : Nat} (hk : k < s.ss.length) {j : Nat} (hj : (j : Int) = ((surfRect (s.ss.getD k default)).inter ⟨0, 0, s.W, s.H⟩).H) :
    mapTo (boxTo ((surfRect (s.ss.getD k default)).inter ⟨0, 0, s.W, s.H⟩) (fun a c => over (pixOf (s.ss.getD k default) a c) (paintTo s k a c)) (paintTo s k) j 0) s.W (s.W * s.H).toNat = mapTo (paintTo s (k + 1)) s.W (s.W * s.H).toNat :=
  mapTo_congr h.1.1 (fun x y h1 h2 h3 h4 => by rw [box_layer h.1 h.2.1 (paintTo s k) hj ⟨h1, h2⟩ ⟨h3, h4⟩, paintTo_succ hk])
end Sx
namespace Sx
theorem orient_idx {i : DImg} {o : Int} (h : i.ok) (ho : 0 ≤ o ∧ o ≤ 7) {x y : Int} (hx : 0 ≤ x ∧ x < i.W) (hy : 0 ≤ y ∧ y < i.H) :
    (0 ≤ (orientPoint i.W i.H o x y).2 * (orientSize i.W i.H o).1 ∧ (orientPoint i.W i.H o x y).2 * (orientSize i.W i.H o).1 ≤ 256) ∧ (0 ≤ (orientPoint i.W i.H o x y).1 ∧ (orientPoint i.W i.H o x y).1 ≤ 15) ∧
    (orientPoint i.W i.H o x y).2 * (orientSize i.W i.H o).1 + (orientPoint i.W i.H o x y).1 < i.W * i.H := by
  have hok : orientOk i.W i.H o := ⟨h.1, h.2.1, ho⟩
  have hb := orientPt_bd hok (x := x) (y := y) (by omega) (by omega)
  have h1 := h.1
  have h2 := h.2.1
  unfold orientPoint orientSize
  rw [if_pos ⟨hok, by omega, by omega⟩, if_pos hok]
  by_cases e : o % 2 = 1
  · rw [if_pos e] at hb ⊢
    rw [if_pos e] at hb
    have := place_lt (w := i.H) (h := i.W) (x := (orientPt i.W i.H o x y).1) (y := (orientPt i.W i.H o x y).2) (by omega) (by omega)
    have hm := mul_bd (a := (orientPt i.W i.H o x y).2) (b := i.H) (A := 15) (B := 16) (by omega) (by omega)
    rw [Int.mul_comm i.H i.W] at this
    dsimp only
    omega
  · rw [if_neg e] at hb ⊢
    rw [if_neg e] at hb
    have := place_lt (w := i.W) (h := i.H) (x := (orientPt i.W i.H o x y).1) (y := (orientPt i.W i.H o x y).2) (by omega) (by omega)
    have hm := mul_bd (a := (orientPt i.W i.H o x y).2) (b := i.W) (A := 15) (B := 16) (by omega) (by omega)
    dsimp only
    omega
theorem orientSize_mul {w h o : Int} (hok : orientOk w h o) : (orientSize w h o).1 * (orientSize w h o).2 = w * h := by
  unfold orientSize
  rw [if_pos hok]
  split
  · exact Int.mul_comm ..
  · rfl
theorem orientSize_bd {w h o : Int} (hok : orientOk w h o) : (1 ≤ (orientSize w h o).1 ∧ (orientSize w h o).1 ≤ 16) ∧ (1 ≤ (orientSize w h o).2 ∧ (orientSize w h o).2 ≤ 16) := by
  have hok' := hok
  unfold orientOk at hok'
  unfold orientSize
  rw [if_pos hok]
  split <;> (dsimp only; omega)
theorem ofill_next {i : DImg} {o : Int} (h : i.ok) (ho : 0 ≤ o ∧ o ≤ 7) {k : Nat} (hk : k < i.data.length) :
    (ofill i o k).set ((orientPoint i.W i.H o ((k : Int) % i.W) ((k : Int) / i.W)).2 * (orientSize i.W i.H o).1 + (orientPoint i.W i.H o ((k : Int) % i.W) ((k : Int) / i.W)).1).toNat (i.data.getD k 0) = ofill i o (k + 1) := by
  have hok : orientOk i.W i.H o := ⟨h.1, h.2.1, ho⟩
  have hm := mod_row (w := i.W) (q := k) h.1.1
  have hd := div_lt (w := i.W) (h := i.H) (q := k) h.1.1 (by rw [← h.lenN]; omega)
  unfold orientPoint orientSize
  rw [if_pos ⟨hok, by omega, by omega⟩, if_pos hok]
  conv => rhs; unfold ofill
  dsimp only
  by_cases e : o % 2 = 1
  · simp only [if_pos e]
  · simp only [if_neg e]
theorem kplace {w h : Int} (hw : 1 ≤ w) {x y : Nat} (hx : (x : Int) < w) (hy : (y : Int) < h) : ((y * w.toNat + x : Nat) : Int) % w = x ∧ ((y * w.toNat + x : Nat) : Int) / w = y ∧ y * w.toNat + x < (w * h).toNat ∧ ((y * w.toNat + x : Nat) : Int) = y * w + x := by
  have e : ((y * w.toNat + x : Nat) : Int) = (y : Int) * w + x := by push_cast; rw [Int.toNat_of_nonneg (by omega)]
  have h1 := row_mod (w := w) (x := x) (y := y) (by omega) (by omega)
  have h2 := place_lt (w := w) (h := h) (x := x) (y := y) (by omega) (by omega)
  rw [e]
  exact ⟨h1.1, h1.2, by omega, rfl⟩
theorem ofill_next' {i : DImg} {o : Int} (h : i.ok) (ho : 0 ≤ o ∧ o ≤ 7) {x y : Nat} (hx : (x : Int) < i.W) (hy : (y : Int) < i.H) :
    (ofill i o (y * i.W.toNat + x)).set ((orientPoint i.W i.H o x y).2 * (orientSize i.W i.H o).1 + (orientPoint i.W i.H o x y).1).toNat (i.data.getD ((y : Int) * i.W + x).toNat 0) = ofill i o (y * i.W.toNat + (x + 1)) := by
  have hk := kplace (w := i.W) (h := i.H) h.1.1 hx hy
  have := ofill_next h ho (k := y * i.W.toNat + x) (by rw [h.lenN]; exact hk.2.2.1)
  rw [hk.1, hk.2.1] at this
  rw [← hk.2.2.2, Int.toNat_natCast]
  exact this
theorem rows_end {w h : Int} {y : Nat} (hw : 1 ≤ w) (hy : (y : Int) = h) : y * w.toNat = (w * h).toNat := by
  have h2 : ((y * w.toNat : Nat) : Int) = w * h := by push_cast; rw [hy, Int.toNat_of_nonneg (by omega), Int.mul_comm]
  omega
theorem rows_next {w : Int} {y x : Nat} (hx : (x : Int) = w) : y * w.toNat + x = (y + 1) * w.toNat := by
  rw [Nat.succ_mul]; omega
theorem rows_le {w h : Int} {y : Nat} (hw : 1 ≤ w ∧ w ≤ 16) (hh : 1 ≤ h ∧ h ≤ 16) (hy : (y : Int) ≤ h) : y * w.toNat ≤ 256 := by
  have := Nat.mul_le_mul (show y ≤ 16 by omega) (show w.toNat ≤ 16 by omega); omega
theorem scalePoint_in {f t k : Int} (hf : 1 ≤ f ∧ f ≤ 16) (ht : 1 ≤ t ∧ t ≤ 16) (hk : 0 ≤ k ∧ k < t) : scalePoint f t k = k * f / t ∧ 0 ≤ scalePoint f t k ∧ scalePoint f t k < f := by
  unfold scalePoint
  rw [if_pos ⟨hf, ht, by omega⟩]
  have h0 : 0 ≤ k * f := Int.mul_nonneg (by omega) (by omega)
  have h1 : (k + 1) * f ≤ t * f := Int.mul_le_mul_of_nonneg_right (by omega) (by omega)
  rw [Int.add_mul, Int.one_mul, Int.mul_comm t f] at h1
  exact ⟨rfl, Int.ediv_nonneg h0 (by omega), Int.ediv_lt_of_lt_mul (by omega) (by omega)⟩
theorem scale_idx {i : DImg} {w h : Int} (hi : i.ok) (hw : 1 ≤ w ∧ w ≤ 16) (hh : 1 ≤ h ∧ h ≤ 16) {x y : Int} (hx : 0 ≤ x ∧ x < w) (hy : 0 ≤ y ∧ y < h) :
    (0 ≤ scalePoint i.H h y * i.W ∧ scalePoint i.H h y * i.W ≤ 256) ∧ (0 ≤ scalePoint i.W w x ∧ scalePoint i.W w x ≤ 15) ∧ scalePoint i.H h y * i.W + scalePoint i.W w x < i.data.length ∧
    i.data.getD (scalePoint i.H h y * i.W + scalePoint i.W w x).toNat 0 = scaleAt i w h x y := by
  have h1 := scalePoint_in hi.2.1 hh hy
  have h2 := scalePoint_in hi.1 hw hx
  have hp := place_lt (w := i.W) (h := i.H) h2.2 h1.2
  have hm := mul_bd (a := scalePoint i.H h y) (b := i.W) (A := 16) (B := 16) (by have := hi.2.1; omega) (by have := hi.1; omega)
  have hl := hi.2.2.1
  have hi1 := hi.1
  refine ⟨by omega, by omega, by omega, ?_⟩
  unfold scaleAt
  rw [h1.1, h2.1]
def mapFirst (f : Int → Int) (l : List Int) (j : Nat) : List Int := (l.take j).map f ++ l.drop j
theorem mapFirst_zero (f : Int → Int) (l : List Int) : mapFirst f l 0 = l := by simp [mapFirst]
theorem mapFirst_all (f : Int → Int) (l : List Int) {j : Nat} (h : l.length ≤ j) : mapFirst f l j = l.map f := by simp [mapFirst, List.take_of_length_le h, List.drop_of_length_le h]
theorem mapFirst_length (f : Int → Int) (l : List Int) (j : Nat) : (mapFirst f l j).length = l.length := by simp [mapFirst]; omega
theorem mapFirst_get (f : Int → Int) (l : List Int) {j : Nat} (h : j < l.length) : (mapFirst f l j).getD j 0 = l.getD j 0 := by
  simp only [mapFirst, List.getD_eq_getElem?_getD]
  rw [List.getElem?_append_right (by simp; omega)]
  simp [show j - min j l.length = 0 by omega]
theorem mapFirst_set (f : Int → Int) (l : List Int) {j : Nat} (h : j < l.length) : (mapFirst f l j).set j (f (l.getD j 0)) = mapFirst f l (j + 1) := by
  unfold mapFirst
  have hl : ((l.take j).map f).length = j := by simp; omega
  rw [List.set_append_right _ _ (by omega), hl, Nat.sub_self, List.drop_eq_getElem_cons h, List.set_cons_zero, List.take_add_one]
  simp only [Option.toList_some, List.map_append, List.map_cons, List.map_nil, List.append_assoc, List.cons_append, List.nil_append, List.getD_eq_getElem?_getD, List.getElem?_eq_getElem h, Option.getD_some]
end Sx
namespace Go.Proofs.Ytpcammhmgleonaa
open Go Sx
attribute [local irreducible] Exit.then Exit.inBlock bodyPost
theorem c_ioriented (i : DImg) (d : Value) (o : Int) (W : World) (hd : RInts W d i.data) : SYieldsF Try.prog 136 #[vImg i d, .int .i64 o] (fun u H => OImg u (oriented i o) H) W := by
  by_cases hok : i.ok ∧ (0 ≤ o ∧ o ≤ 7)
  · have hoo : orientOk i.W i.H o := ⟨hok.1.1, hok.1.2.1, hok.2⟩
    have hsz := orientSize_mul hoo
    have hsb := orientSize_bd hoo
    have hW := (hok.1).1; have hH := (hok.1).2.1; have hlen := (hok.1).2.2.1; have hlenN := (hok.1).lenN; have hwh := side_mul (w := i.W) (h := i.H) ⟨(hok.1).1.1, (hok.1).1.2, (hok.1).2.1.1, (hok.1).2.1.2⟩
    have hfl := ofill_length i o
    have hm := fun k => mod_row (w := i.W) (q := k) hok.1.1.1
    have hdv := fun (k : Nat) (hk : k < i.data.length) => div_lt (w := i.W) (h := i.H) (q := k) hok.1.1.1 (by rw [← hok.1.lenN]; omega)
    have hq := fun (k : Nat) (hk : k < i.data.length) => orient_idx hok.1 hok.2 (x := (k : Int) % i.W) (y := (k : Int) / i.W) ⟨(hm k).1, (hm k).2.1⟩ ⟨(hm k).2.2.1, hdv k hk⟩
    (first | apply SYields.mk | apply SYieldsF.mk | skip); refine s_enter Try.func136 rfl Try.ntmps136 rfl ?_
    repeat' (first | exact rfl | (apply kO; (first | exact ov_pure rfl | (apply kOBin; (first | exact aBin | exact (ov_mul rfl rfl (by omega)) | exact (ov_mul rfl rfl (by have := hq j.1 (by omega); omega)) | exact (ov_add rfl rfl (by have := hq j.1 (by omega); omega)))) | (apply kOCall; (first | (apply kCallF; (first | exact (ov_call rfl (fun w hw => c_iimageOk i _ w (riA hw))) | exact (ov_call rfl (fun w hw => c_isOrient _ w)) | exact (ov_call rfl (fun w hw => c_iorientSize _ _ _ w)) | exact (ov_call rfl (fun w hw => c_iorientPoint _ _ _ _ _ w)))) | (apply kCallB; (exact aLenR)))) | (apply kOLoad; (first | exact aLdF | exact aLdR)) | exact ov_fieldAddr rfl | (apply kOIdx; (first | exact (ov_idxR (fun w hw => (rrA hw)) rfl rfl (by rw [hfl]; have := hq j.1 (by omega); omega)) | exact aIdx)) | exact aNew)) | (refine kN ?_; (first | (refine kStore ?_; (first | (refine s_setI _ rfl rfl (by assumption) gpA (by rw [hfl]; have := hq j.1 (by omega); omega) (fun H' hu => ?_)) | refine s_storeS _ rfl rfl gpA rfl rfl (by rfl) ?_ | refine s_storeS _ rfl rfl gpA rfl (ones_img oiA) (by rfl) ?_)) | refine s_boxS rfl rfl (fun b hb => ?_) | refine s_allocS rfl (fun b hb => ?_) | (refine kWMake ?_; (refine s_make1 rfl rfl rfl ⟨by omega, by omega, by omega⟩ (by omega) rfl (fun b hb => ?_); rw [hsz])) | apply s_step)) | (refine kG ?_; (first | refine s_gyes rfl rfl rfl ?_ | refine s_gno rfl rfl rfl rfl rfl ?_ | ((refine s_split_n rfl rfl (fun h => ?_) (fun h => ?_)) <;> (try (first | contradiction | (exfalso; omega) | (exfalso; exact absurd hok.1 (by assumption))))))) | refine l_then ?_ | (refine kC ?_; (first | (refine c_loopV (ι := Nat × SPiece) (fun j => j.1 ≤ i.data.length ∧ OInts 3 _ (ofill i o j.1) j.2) (fun j => [(40, .int .i64 (j.1 : Int))]) (fun j => [_, j.2, _, _]) (fun j => i.data.length - j.1) (0, _) ⟨by dsimp only; omega, OInts.full _ _ 0 (by unfold maxLen; omega)⟩ rfl (fun _ => rfl) ⟨rfl, trivial⟩ (fun w hw => hw) (fun j hj => ?_); obtain ⟨hj1, hj2⟩ := hj) | refine c_seq ?_ | refine c_regionN rfl ?_ | refine c_ret ?_ | (refine kCond ?_; (first | refine c_cond_t rfl ?_ | ((first | refine c_cond_d rfl (fun h => ?_) (fun h => ?_) | refine c_cond_n rfl (fun h => ?_) (fun h => ?_)) <;> (try (first | contradiction | (exfalso; omega) | (exfalso; exact absurd hok.1 (by assumption))))))) | refine c_block ?_ | refine c_skip ?_ | refine c_exit ?_ | refine c_regionQN rfl rfl (by decide +kernel) ?_)) | apply s_stepQ | refine lQ_then ?_ | (refine kE ?_; (first | refine e_then_r ?_ | refine e_then_n ?_ | refine e_then_x ?_ | refine e_block_n ?_ | refine e_block_x ?_)) | refine l_ends ?_)
    · rw [Int.toNat_natCast, ofill_next hok.1 hok.2 (by omega)] at hu
      exact e_round (j.1 + 1, H') ⟨by dsimp only; omega, hu⟩ ⟨rfl, (by repeat' first | exact trivial | refine ⟨rfl, ?_⟩)⟩ (fun w hw => hw) (by dsimp only; omega)
    · obtain hj : j.1 = i.data.length := by omega
      rw [hj] at hj2
      refine s_leaveSF rfl rfl rfl fwA (fun w hw => ?_)
      refine ⟨_, _, rfl, ?_, hw.toFresh (i := 1) rfl⟩
      unfold oriented
      rw [if_pos hok]
      exact ⟨_, rfl, hj2⟩
  · (first | apply SYields.mk | apply SYieldsF.mk | skip); refine s_enter Try.func136 rfl Try.ntmps136 rfl ?_
    repeat' (first | exact rfl | (apply kO; (first | exact ov_pure rfl | (apply kOBin; (first | exact aBin)) | (apply kOCall; (first | (apply kCallF; (first | exact (ov_call rfl (fun w hw => c_iimageOk i _ w (riA hw))) | exact (ov_call rfl (fun w hw => c_isOrient _ w)) | exact (ov_call rfl (fun w hw => c_iorientSize _ _ _ w)))) | (apply kCallB; (exact aLenR)))) | (apply kOLoad; (first | exact aLdF | exact aLdR)) | exact ov_fieldAddr rfl | (apply kOIdx; (first | exact aIdx)) | exact aNew)) | (refine kN ?_; (first | (refine kStore ?_; (first | refine s_storeS _ rfl rfl gpA rfl rfl (by rfl) ?_ | refine s_storeS _ rfl rfl gpA rfl (ones_img oiA) (by rfl) ?_)) | refine s_boxS rfl rfl (fun b hb => ?_) | refine s_allocS rfl (fun b hb => ?_) | apply s_step)) | (refine kG ?_; (first | refine s_gyes rfl rfl rfl ?_ | refine s_gno rfl rfl rfl rfl rfl ?_ | ((refine s_split_n rfl rfl (fun h => ?_) (fun h => ?_)) <;> (try (first | contradiction | (exfalso; omega) | (exfalso; exact hok ⟨by assumption, by assumption⟩)))))) | refine l_then ?_ | (refine kC ?_; (first | refine c_seq ?_ | refine c_regionN rfl ?_ | refine c_ret ?_ | (refine kCond ?_; (first | refine c_cond_t rfl ?_ | ((first | refine c_cond_d rfl (fun h => ?_) (fun h => ?_) | refine c_cond_n rfl (fun h => ?_) (fun h => ?_)) <;> (try (first | contradiction | (exfalso; omega) | (exfalso; exact hok ⟨by assumption, by assumption⟩)))))) | refine c_block ?_ | refine c_skip ?_ | refine c_exit ?_ | refine c_regionQN rfl rfl (by decide +kernel) ?_)) | apply s_stepQ | refine lQ_then ?_ | (refine kE ?_; (first | refine e_then_r ?_ | refine e_then_n ?_ | refine e_then_x ?_ | refine e_block_n ?_ | refine e_block_x ?_)) | refine l_ends ?_)
    all_goals (refine kE ?_; refine s_leaveSF rfl rfl rfl fwA (fun w hw => ?_))
    all_goals (unfold oriented; rw [if_neg hok]; exact ⟨_, [], rfl, ⟨_, rfl, OInts.nil _⟩, hw.toFresh0⟩)
theorem c_soriented (i : DImg) (d : Value) (o : Int) (W : World) (hd : RInts W d i.data) : SYieldsF Try.prog 155 #[vImg i d, .int .i64 o] (fun u H => OImg u (oriented i o) H) W := by
  by_cases hok : i.ok ∧ (0 ≤ o ∧ o ≤ 7)
  · have hoo : orientOk i.W i.H o := ⟨hok.1.1, hok.1.2.1, hok.2⟩
    have hsz := orientSize_mul hoo
    have hsb := orientSize_bd hoo
    have hW := (hok.1).1; have hH := (hok.1).2.1; have hlen := (hok.1).2.2.1; have hlenN := (hok.1).lenN; have hwh := side_mul (w := i.W) (h := i.H) ⟨(hok.1).1.1, (hok.1).1.2, (hok.1).2.1.1, (hok.1).2.1.2⟩
    have hfl := ofill_length i o
    have hq := fun (y x : Nat) (hy : (y : Int) < i.H) (hx : (x : Int) < i.W) => orient_idx hok.1 hok.2 (x := (x : Int)) (y := (y : Int)) ⟨by omega, hx⟩ ⟨by omega, hy⟩
    have hp := fun (y x : Nat) (hy : (y : Int) < i.H) (hx : (x : Int) < i.W) => place_lt (w := i.W) (h := i.H) (x := (x : Int)) (y := (y : Int)) ⟨by omega, hx⟩ ⟨by omega, hy⟩
    have hmb := fun (y : Nat) (hy : (y : Int) < i.H) => mul_bd (a := (y : Int)) (b := i.W) (A := 16) (B := 16) (by omega) (by omega)
    (first | apply SYields.mk | apply SYieldsF.mk | skip); refine s_enter Try.func155 rfl Try.ntmps155 rfl ?_
    repeat' (first | exact rfl | (apply kO; (first | exact ov_pure rfl | (apply kOBin; (first | exact aBin | exact (ov_mul rfl rfl (by omega)) | exact (ov_mul rfl rfl (by have := hq j.1 x.1 (by omega) (by omega); omega)) | exact (ov_add rfl rfl (by have := hq j.1 x.1 (by omega) (by omega); omega)) | exact (ov_mul rfl rfl (by have := hmb j.1 (by omega); omega)) | exact (ov_add rfl rfl (by have := hp j.1 x.1 (by omega) (by omega); omega)))) | (apply kOCall; ((apply kCallF; (first | exact (ov_call rfl (fun w hw => c_simageOk i _ w (riA hw))) | exact (ov_call rfl (fun w hw => c_l01In _ _ _ w)) | exact (ov_call rfl (fun w hw => c_sorientSize _ _ _ w)) | exact (ov_call rfl (fun w hw => c_sorientPoint _ _ _ _ _ w)))))) | (apply kOLoad; (first | exact (ov_ldR0 (fun w hw => (rrA hw)) rfl rfl (by have := hp j.1 x.1 (by omega) (by omega); omega) rfl) | exact aLdF)) | exact ov_fieldAddr rfl | (apply kOIdx; (first | exact (ov_idxR (fun w hw => (rrA hw)) rfl rfl (by rw [hfl]; have := hq j.1 x.1 (by omega) (by omega); omega)) | exact (ov_idxR (fun w hw => (rrA hw)) rfl rfl (by have := hp j.1 x.1 (by omega) (by omega); omega)))) | exact aNew)) | (refine kN ?_; (first | (refine kStore ?_; (first | (refine s_setI _ rfl rfl (by assumption) gpA (by rw [hfl]; have := hq j.1 x.1 (by omega) (by omega); omega) (fun H' hu => ?_)) | refine s_storeS _ rfl rfl gpA rfl rfl (by rfl) ?_ | refine s_storeS _ rfl rfl gpA rfl (ones_img oiA) (by rfl) ?_)) | refine s_boxS rfl rfl (fun b hb => ?_) | refine s_allocS rfl (fun b hb => ?_) | (refine kWMake ?_; (refine s_make1 rfl rfl rfl ⟨by omega, by omega, by omega⟩ (by omega) rfl (fun b hb => ?_); rw [hsz])) | apply s_step)) | (refine kG ?_; (first | refine s_gyes rfl rfl rfl ?_ | refine s_gno rfl rfl rfl rfl rfl ?_ | ((refine s_split_n rfl rfl (fun h => ?_) (fun h => ?_)) <;> (try (first | contradiction | (exfalso; omega) | (exfalso; exact absurd hok.1 (by assumption))))))) | (refine kS ?_; (first | refine h_exec rfl ?_ | apply h_take)) | (refine kBack ?_; (refine h_back_last rfl ?_)) | refine l_then ?_ | (refine kC ?_; (first | (refine kReg 12 ?_; refine c_regionSN (SPlan.take 0 (SPlan.take 1 (SPlan.take 2 (SPlan.take 3 (SPlan.take 4 (SPlan.take 5 (SPlan.take 6 (SPlan.take 7 (SPlan.take 8 (SPlan.take 9 (SPlan.take 10 (SPlan.take 11 (SPlan.take 12 (SPlan.take 13 (SPlan.take 14 (SPlan.take 15 (SPlan.take 16 (SPlan.take 17 (SPlan.run 18 SPlan.done))))))))))))))))))) (some 18) rfl rfl (by decide +kernel) ?_) | (refine kReg 12 ?_; refine c_regionSN (SPlan.take 0 (SPlan.take 1 (SPlan.take 2 (SPlan.take 3 (SPlan.take 4 (SPlan.take 5 (SPlan.take 6 (SPlan.take 7 (SPlan.take 8 (SPlan.take 9 (SPlan.take 10 (SPlan.take 11 (SPlan.take 12 (SPlan.take 13 (SPlan.take 14 (SPlan.take 15 (SPlan.take 16 (SPlan.take 17 (SPlan.run 18 SPlan.done))))))))))))))))))) none rfl rfl (by decide +kernel) ?_) | (refine c_loopV (ι := Nat × SPiece) (fun j => (j.1 : Int) ≤ i.H ∧ OInts 3 _ (ofill i o (j.1 * i.W.toNat)) j.2) (fun j => [(8, .int .i64 (j.1 : Int))]) (fun j => [_, j.2, _, _]) (fun j => i.H.toNat - j.1) (0, _) ⟨by dsimp only; omega, by dsimp only; rw [Nat.zero_mul]; exact OInts.full _ _ 0 (by unfold maxLen; omega)⟩ rfl (fun _ => rfl) ⟨rfl, trivial⟩ (fun w hw => hw) (fun j hj => ?_); obtain ⟨hj1, hj2⟩ := hj) | (refine c_loopV (ι := Nat × SPiece) (fun x => (x.1 : Int) ≤ i.W ∧ OInts 3 _ (ofill i o (j.1 * i.W.toNat + x.1)) x.2) (fun x => [(9, .int .i64 (x.1 : Int))]) (fun x => [_, x.2, _, _]) (fun x => i.W.toNat - x.1) (0, _) ⟨by dsimp only; omega, hj2⟩ rfl (fun _ => rfl) ⟨rfl, trivial⟩ (fun w hw => hw) (fun x hx => ?_); obtain ⟨hx1, hx2⟩ := hx) | refine c_seq ?_ | refine c_regionN rfl ?_ | refine c_ret ?_ | (refine kCond ?_; (first | refine c_cond_t rfl ?_ | ((first | refine c_cond_d rfl (fun h => ?_) (fun h => ?_) | refine c_cond_n rfl (fun h => ?_) (fun h => ?_)) <;> (try (first | contradiction | (exfalso; omega) | (exfalso; exact absurd hok.1 (by assumption))))))) | refine c_block ?_ | refine c_skip ?_ | refine c_exit ?_)) | (refine kE ?_; (first | refine e_then_r ?_ | refine e_then_n ?_ | refine e_then_x ?_ | refine e_block_n ?_ | refine e_block_x ?_)) | refine l_ends ?_)
    · rw [ofill_next' hok.1 hok.2 (by omega) (by omega)] at hu
      exact e_round (x.1 + 1, H') ⟨by dsimp only; omega, hu⟩ ⟨rfl, (by repeat' first | exact trivial | refine ⟨rfl, ?_⟩)⟩ (fun w hw => hw) (by dsimp only; omega)
    · rw [rows_next (w := i.W) (by omega)] at hx2
      exact e_round (j.1 + 1, x.2) ⟨by dsimp only; omega, hx2⟩ ⟨rfl, (by repeat' first | exact trivial | refine ⟨rfl, ?_⟩)⟩ (fun w hw => hw) (by dsimp only; omega)
    · rw [(rows_end (w := i.W) (h := i.H) (by omega) (by omega)).trans hlenN.symm] at hj2
      refine s_leaveSF rfl rfl rfl fwA (fun w hw => ?_)
      refine ⟨_, _, rfl, ?_, hw.toFresh (i := 1) rfl⟩
      unfold oriented
      rw [if_pos hok]
      exact ⟨_, rfl, hj2⟩
  · (first | apply SYields.mk | apply SYieldsF.mk | skip); refine s_enter Try.func155 rfl Try.ntmps155 rfl ?_
    repeat' (first | exact rfl | (apply kO; (first | exact ov_pure rfl | (apply kOBin; (first | exact aBin)) | (apply kOCall; ((apply kCallF; (first | exact (ov_call rfl (fun w hw => c_simageOk i _ w (riA hw))) | exact (ov_call rfl (fun w hw => c_l01In _ _ _ w)) | exact (ov_call rfl (fun w hw => c_sorientSize _ _ _ w)))))) | (apply kOLoad; (exact aLdF)) | exact ov_fieldAddr rfl | (apply kOIdx; (first | exact aIdx)) | exact aNew)) | (refine kN ?_; (first | (refine kStore ?_; (first | refine s_storeS _ rfl rfl gpA rfl rfl (by rfl) ?_ | refine s_storeS _ rfl rfl gpA rfl (ones_img oiA) (by rfl) ?_)) | refine s_boxS rfl rfl (fun b hb => ?_) | refine s_allocS rfl (fun b hb => ?_) | apply s_step)) | (refine kG ?_; (first | refine s_gyes rfl rfl rfl ?_ | refine s_gno rfl rfl rfl rfl rfl ?_ | ((refine s_split_n rfl rfl (fun h => ?_) (fun h => ?_)) <;> (try (first | contradiction | (exfalso; omega) | (exfalso; exact hok ⟨by assumption, by assumption⟩)))))) | refine l_then ?_ | (refine kC ?_; (first | refine c_seq ?_ | refine c_regionN rfl ?_ | refine c_ret ?_ | (refine kCond ?_; (first | refine c_cond_t rfl ?_ | ((first | refine c_cond_d rfl (fun h => ?_) (fun h => ?_) | refine c_cond_n rfl (fun h => ?_) (fun h => ?_)) <;> (try (first | contradiction | (exfalso; omega) | (exfalso; exact hok ⟨by assumption, by assumption⟩)))))) | refine c_block ?_ | refine c_skip ?_ | refine c_exit ?_)) | (refine kE ?_; (first | refine e_then_r ?_ | refine e_then_n ?_ | refine e_then_x ?_ | refine e_block_n ?_ | refine e_block_x ?_)) | refine l_ends ?_)
    all_goals (refine kE ?_; refine s_leaveSF rfl rfl rfl fwA (fun w hw => ?_))
    all_goals (unfold oriented; rw [if_neg hok]; exact ⟨_, [], rfl, ⟨_, rfl, OInts.nil _⟩, hw.toFresh0⟩)
theorem c_scaleClosure (i : DImg) (d : Value) (pw ph x y : Int) (p q r : Nat) (W : World) (hi : i.ok) (hpw : 1 ≤ pw ∧ pw ≤ 16) (hph : 1 ≤ ph ∧ ph ≤ 16) (hx : 0 ≤ x ∧ x < pw) (hy : 0 ≤ y ∧ y < ph) (hd : RInts W d i.data)
    (c1 : ∀ j u, (cImg i d)[j]? = some u → W.cell? ⟨p, j, none⟩ = some u) (c2 : ∀ j u, [Value.int .i64 ph][j]? = some u → W.cell? ⟨q, j, none⟩ = some u) (c3 : ∀ j u, [Value.int .i64 pw][j]? = some u → W.cell? ⟨r, j, none⟩ = some u) :
    SYields Try.prog 166 #[.int .i64 x, .int .i64 y, .pointer (some ⟨p, 0, none⟩), .pointer (some ⟨q, 0, none⟩), .pointer (some ⟨r, 0, none⟩)] (.int .i64 (scaleAt i pw ph x y)) W := by
  have hs := scale_idx hi hpw hph hx hy
  rw [← hs.2.2.2]
  (first | apply SYields.mk | apply SYieldsF.mk | skip); refine s_enter Try.func166 rfl Try.ntmps166 rfl ?_
  repeat' (first | exact rfl | (apply kO; (first | exact ov_pure rfl | (apply kOBin; (first | exact aBin)) | (apply kOCall; ((apply kCallF; (first | exact (ov_call rfl (fun w hw => c_iscalePoint _ _ _ w)))))) | (apply kOLoad; (first | exact (ov_load_at rfl rfl (fun w hw => hw.cells rfl _ _ (c1 0 _ rfl))) | exact (ov_load_at rfl rfl (fun w hw => hw.cells rfl _ _ (c1 1 _ rfl))) | exact (ov_load_at rfl rfl (fun w hw => hw.cells rfl _ _ (c1 2 _ rfl))) | exact (ov_load_at rfl rfl (fun w hw => hw.cells rfl _ _ (c2 0 _ rfl))) | exact (ov_load_at rfl rfl (fun w hw => hw.cells rfl _ _ (c3 0 _ rfl))) | exact aLdR)) | exact ov_fieldAddr rfl | (apply kOIdx; (first | exact aIdx)))) | (refine kN ?_; (apply s_step)) | refine l_then ?_ | (refine kC ?_; (first | refine c_seq ?_ | refine c_regionN rfl ?_ | refine c_ret ?_ | refine c_regionQN rfl rfl (by decide +kernel) ?_)) | apply s_stepQ | refine lQ_then ?_)
  all_goals refine s_leave1 rfl rfl (fun w hw => ⟨?_, hw.below⟩)
  all_goals rfl
theorem c_iscaled (i : DImg) (d : Value) (pw ph : Int) (W : World) (hd : RInts W d i.data) : SYieldsF Try.prog 137 #[vImg i d, .int .i64 pw, .int .i64 ph] (fun u H => OImg u (scaled i pw ph) H) W := by
  by_cases hok : i.ok ∧ (1 ≤ pw ∧ pw ≤ 16) ∧ (1 ≤ ph ∧ ph ≤ 16)
  · (first | apply SYields.mk | apply SYieldsF.mk | skip); refine s_enter Try.func137 rfl Try.ntmps137 rfl ?_
    repeat' (first | exact rfl | (apply kO; (first | exact ov_pure rfl | (apply kOCall; ((apply kCallF; (first | exact (ov_call rfl (fun w hw => c_iimageOk i _ w (riA hw))) | exact (ov_call rfl (fun w hw => c_isSide _ w)))))) | (apply kOLoad; (exact aLdF)) | exact aNew)) | (refine kN ?_; (first | (refine kCall ?_; (first | (refine kWFunc ?_; (refine s_callF (fun u H => OImg u ⟨pw, ph, mapTo (scaleAt i pw ph) pw (pw * ph).toNat⟩ H) rfl (fun W1 hw1 => c_mapImage pw ph _ _ (scaleAt i pw ph) W1 hok.2.1 hok.2.2 (fun x y hx hy W2 hb2 => c_scaleClosure i d pw ph x y _ _ _ W2 hok.1 hok.2.1 hok.2.2 hx hy ((hd.keep (hw1.cells rfl)).keep (below_cells hb2)) (fun j u hu => below_cells hb2 _ _ (hw1.captured gpA j u hu)) (fun j u hu => below_cells hb2 _ _ (hw1.captured gpA j u hu)) (fun j u hu => below_cells hb2 _ _ (hw1.captured gpA j u hu)))) rfl (fun u H hu => ?_); obtain ⟨d', rfl, hu⟩ := hu; have f1 := hu.form; obtain ⟨_, _, rfl⟩ := f1)) | apply s_step)) | (refine kStore ?_; (first | refine s_storeS _ rfl rfl gpA rfl rfl (by rfl) ?_ | refine s_storeS _ rfl rfl gpA rfl (ones_img oiA) (by rfl) ?_)) | refine s_boxS rfl rfl (fun b hb => ?_) | refine s_allocS rfl (fun b hb => ?_) | refine s_box1 rfl rfl rfl (fun b hb => ?_) | apply s_step)) | (refine kG ?_; (first | refine s_gyes rfl rfl rfl ?_ | refine s_gno rfl rfl rfl rfl rfl ?_ | ((refine s_split_n rfl rfl (fun h => ?_) (fun h => ?_)) <;> (try (first | contradiction | (exfalso; omega) | (exfalso; exact absurd hok.1 (by assumption))))))) | refine l_then ?_ | (refine kC ?_; (first | refine c_seq ?_ | refine c_regionN rfl ?_ | refine c_ret ?_ | (refine kCond ?_; (first | refine c_cond_t rfl ?_ | ((refine c_cond_n rfl (fun h => ?_) (fun h => ?_)) <;> (try (first | contradiction | (exfalso; omega) | (exfalso; exact absurd hok.1 (by assumption))))))) | refine c_skip ?_)) | (refine kE ?_; (first | refine e_then_r ?_ | refine e_then_n ?_)))
    all_goals (refine kE ?_; refine s_leaveSF rfl rfl rfl fwA (fun w hw => ?_))
    all_goals (refine ⟨_, _, rfl, ?_, hw.toFresh (i := 0) rfl⟩; unfold scaled; rw [if_pos hok]; exact ⟨_, rfl, hu⟩)
  · (first | apply SYields.mk | apply SYieldsF.mk | skip); refine s_enter Try.func137 rfl Try.ntmps137 rfl ?_
    repeat' (first | exact rfl | (apply kO; (first | exact ov_pure rfl | (apply kOCall; ((apply kCallF; (first | exact (ov_call rfl (fun w hw => c_iimageOk i _ w (riA hw))) | exact (ov_call rfl (fun w hw => c_isSide _ w)))))) | (apply kOLoad; (exact aLdF)) | exact aNew)) | (refine kN ?_; (first | (refine kStore ?_; (first | refine s_storeS _ rfl rfl gpA rfl rfl (by rfl) ?_ | refine s_storeS _ rfl rfl gpA rfl (ones_img oiA) (by rfl) ?_)) | refine s_boxS rfl rfl (fun b hb => ?_) | refine s_allocS rfl (fun b hb => ?_) | refine s_box1 rfl rfl rfl (fun b hb => ?_) | apply s_step)) | (refine kG ?_; (first | refine s_gyes rfl rfl rfl ?_ | refine s_gno rfl rfl rfl rfl rfl ?_ | ((refine s_split_n rfl rfl (fun h => ?_) (fun h => ?_)) <;> (try (first | contradiction | (exfalso; omega) | (exfalso; exact hok ⟨by assumption, by omega, by omega⟩)))))) | refine l_then ?_ | (refine kC ?_; (first | refine c_seq ?_ | refine c_regionN rfl ?_ | refine c_ret ?_ | (refine kCond ?_; (first | refine c_cond_t rfl ?_ | ((refine c_cond_n rfl (fun h => ?_) (fun h => ?_)) <;> (try (first | contradiction | (exfalso; omega) | (exfalso; exact hok ⟨by assumption, by omega, by omega⟩)))))) | refine c_skip ?_)) | (refine kE ?_; (first | refine e_then_r ?_ | refine e_then_n ?_)))
    all_goals (refine kE ?_; refine s_leaveSF rfl rfl rfl fwA (fun w hw => ?_))
    all_goals (unfold scaled; rw [if_neg hok]; exact ⟨_, [], rfl, ⟨_, rfl, OInts.nil _⟩, hw.toFresh0⟩)
theorem c_sscaled (i : DImg) (d : Value) (p q : Int) (W : World) (hd : RInts W d i.data) : SYieldsF Try.prog 156 #[vImg i d, .int .i64 p, .int .i64 q] (fun u H => OImg u (scaled i p q) H) W := by
  by_cases hok : i.ok ∧ (1 ≤ p ∧ p ≤ 16) ∧ (1 ≤ q ∧ q ≤ 16)
  · have hW := (hok.1).1; have hH := (hok.1).2.1; have hlen := (hok.1).2.2.1; have hlenN := (hok.1).lenN; have hwh := side_mul (w := i.W) (h := i.H) ⟨(hok.1).1.1, (hok.1).1.2, (hok.1).2.1.1, (hok.1).2.1.2⟩
    have hq := fun (y x : Nat) (hy : (y : Int) < q) (hx : (x : Int) < p) => scale_idx hok.1 hok.2.1 hok.2.2 (x := (x : Int)) (y := (y : Int)) ⟨by omega, hx⟩ ⟨by omega, hy⟩
    have hrow := fun (y : Nat) (hy : (y : Int) ≤ q) => rows_le hok.2.1 hok.2.2 hy
    have hpq := hok.2
    (first | apply SYields.mk | apply SYieldsF.mk | skip); refine s_enter Try.func156 rfl Try.ntmps156 rfl ?_
    repeat' (first | exact rfl | (apply kO; (first | exact ov_pure rfl | (apply kOBin; (first | exact aBin | exact (ov_mul rfl rfl (by have := hq j.1 x.1 (by omega) (by omega); omega)) | exact (ov_add rfl rfl (by have := hq j.1 x.1 (by omega) (by omega); omega)))) | (apply kOCall; ((apply kCallF; (first | exact (ov_call rfl (fun w hw => c_simageOk i _ w (riA hw))) | exact (ov_call rfl (fun w hw => c_l01In _ _ _ w)) | exact (ov_call rfl (fun w hw => c_sscalePoint _ _ _ w)))))) | (apply kOLoad; (first | exact (ov_ldR0 (fun w hw => (rrA hw)) rfl rfl (by have := hq j.1 x.1 (by omega) (by omega); omega) rfl) | exact aLdF)) | exact ov_fieldAddr rfl | (apply kOIdx; (exact (ov_idxR (fun w hw => (rrA hw)) rfl rfl (by have := hq j.1 x.1 (by omega) (by omega); omega)))) | exact aNew)) | (refine kN ?_; (first | (refine kCall ?_; (first | (refine kWApp ?_; (refine s_appendI _ _ (ys := [_]) rfl rfl (by assumption) gpA gpA rfl rfl (by rw [mapTo_length]; have := hrow j.1 (by omega); omega) (by decide) rfl (fun v' H' hv' => ?_); have f1 := hv'.form; obtain ⟨ua, uc, rfl⟩ := f1)) | apply s_step)) | (refine kStore ?_; (first | refine s_store1 _ rfl rfl gpA rfl (by rfl) ?_ | refine s_storeS _ rfl rfl gpA rfl rfl (by rfl) ?_ | refine s_storeS _ rfl rfl gpA rfl (ones_img oiA) (by rfl) ?_)) | refine s_boxS rfl rfl (fun b hb => ?_) | refine s_allocS rfl (fun b hb => ?_) | refine s_buildSlice rfl rfl rfl rfl rfl (fun b hb => ?_) | apply s_step)) | (refine kG ?_; (first | refine s_gyes rfl rfl rfl ?_ | refine s_gno rfl rfl rfl rfl rfl ?_ | ((refine s_split_n rfl rfl (fun h => ?_) (fun h => ?_)) <;> (try (first | contradiction | (exfalso; omega) | (exfalso; exact absurd hok.1 (by assumption))))))) | (refine kS ?_; (first | refine h_exec rfl ?_ | apply h_take)) | (refine kBack ?_; (first | refine h_back_last rfl ?_ | refine h_backN rfl subA ?_)) | refine l_then ?_ | (refine kC ?_; (first | (refine kReg 10 ?_; refine c_regionSubN (SPlan.take 0 (SPlan.take 1 (SPlan.take 2 (SPlan.take 3 (SPlan.take 4 (SPlan.take 5 (SPlan.take 6 (SPlan.take 7 (SPlan.take 9 (SPlan.take 10 (SPlan.take 12 (SPlan.take 13 (SPlan.take 14 (SPlan.take 15 (SPlan.run 8 (SPlan.take 11 (SPlan.run 16 (SPlan.take 17 (SPlan.take 18 (SPlan.take 19 (SPlan.run 20 (SPlan.run 21 (SPlan.take 22 (SPlan.run 23 SPlan.done)))))))))))))))))))))))) (some 23) [true, false, true, true] rfl rfl rfl (by decide +kernel) ?_) | (refine c_loopV (ι := Nat × Value × SPiece) (fun j => (j.1 : Int) ≤ q ∧ OInts 3 j.2.1 (mapTo (scaleAt i p q) p (j.1 * p.toNat)) j.2.2) (fun j => [(8, .int .i64 (j.1 : Int))]) (fun j => [[(_, srow [.int .i64 p, .int .i64 q, j.2.1] 39)], j.2.2, _, _]) (fun j => q.toNat - j.1) (0, _, []) ⟨by dsimp only; omega, by dsimp only; rw [Nat.zero_mul]; exact OInts.nil _⟩ rfl (fun _ => rfl) ⟨rfl, trivial⟩ (fun w hw => hw.nil1) (fun j hj => ?_); obtain ⟨hj1, hj2⟩ := hj) | (refine c_loopV (ι := Nat × Value × SPiece) (fun x => (x.1 : Int) ≤ p ∧ OInts 3 x.2.1 (mapTo (scaleAt i p q) p (j.1 * p.toNat + x.1)) x.2.2) (fun x => [(9, .int .i64 (x.1 : Int))]) (fun x => [[(_, srow [.int .i64 p, .int .i64 q, x.2.1] 39)], x.2.2, _, _]) (fun x => p.toNat - x.1) (0, _, _) ⟨by dsimp only; omega, hj2⟩ rfl (fun _ => rfl) ⟨rfl, trivial⟩ (fun w hw => hw) (fun x hx => ?_); obtain ⟨hx1, hx2⟩ := hx) | refine c_seq ?_ | refine c_regionN rfl ?_ | refine c_ret ?_ | (refine kCond ?_; (first | refine c_cond_t rfl ?_ | ((first | refine c_cond_d rfl (fun h => ?_) (fun h => ?_) | refine c_cond_n rfl (fun h => ?_) (fun h => ?_)) <;> (try (first | contradiction | (exfalso; omega) | (exfalso; exact absurd hok.1 (by assumption))))))) | refine c_block ?_ | refine c_skip ?_ | refine c_exit ?_)) | (refine kE ?_; (first | refine e_then_r ?_ | refine e_then_n ?_ | refine e_then_x ?_ | refine e_block_n ?_ | refine e_block_x ?_)) | refine l_ends ?_)
    · refine e_round (x.1 + 1, _, H') ⟨by dsimp only; omega, by dsimp only; rw [← mapTo_row (by omega) _ _ (by omega), ← (hq j.1 x.1 (by omega) (by omega)).2.2.2]; exact hv'⟩ ⟨rfl, (by repeat' first | exact trivial | refine ⟨rfl, ?_⟩)⟩ (fun w hw => hw.sub (by repeat' first | exact List.nil_sublist _ | exact List.Sublist.slnil | refine List.Sublist.cons_cons _ ?_ | refine List.Sublist.cons _ ?_)) (by dsimp only; omega)
    · rw [rows_next (w := p) (by omega)] at hx2
      exact e_round (j.1 + 1, x.2.1, x.2.2) ⟨by dsimp only; omega, hx2⟩ ⟨rfl, (by repeat' first | exact trivial | refine ⟨rfl, ?_⟩)⟩ (fun w hw => hw) (by dsimp only; omega)
    · rw [rows_end (w := p) (h := q) (by omega) (by omega)] at hj2
      refine s_leaveSF rfl rfl rfl fwA (fun w hw => ?_)
      refine ⟨_, _, rfl, ?_, hw.toFresh (i := 1) rfl⟩
      unfold scaled
      rw [if_pos hok]
      exact ⟨_, rfl, hj2⟩
  · (first | apply SYields.mk | apply SYieldsF.mk | skip); refine s_enter Try.func156 rfl Try.ntmps156 rfl ?_
    repeat' (first | exact rfl | (apply kO; (first | exact ov_pure rfl | (apply kOBin; (first | exact aBin)) | (apply kOCall; ((apply kCallF; (first | exact (ov_call rfl (fun w hw => c_simageOk i _ w (riA hw))) | exact (ov_call rfl (fun w hw => c_l01In _ _ _ w)))))) | (apply kOLoad; (exact aLdF)) | exact ov_fieldAddr rfl | (apply kOIdx; (first | exact aIdx)) | exact aNew)) | (refine kN ?_; (first | (refine kStore ?_; (first | refine s_store1 _ rfl rfl gpA rfl (by rfl) ?_ | refine s_storeS _ rfl rfl gpA rfl rfl (by rfl) ?_ | refine s_storeS _ rfl rfl gpA rfl (ones_img oiA) (by rfl) ?_)) | refine s_boxS rfl rfl (fun b hb => ?_) | refine s_allocS rfl (fun b hb => ?_) | refine s_buildSlice rfl rfl rfl rfl rfl (fun b hb => ?_) | apply s_step)) | (refine kG ?_; (first | refine s_gyes rfl rfl rfl ?_ | refine s_gno rfl rfl rfl rfl rfl ?_ | ((refine s_split_n rfl rfl (fun h => ?_) (fun h => ?_)) <;> (try (first | contradiction | (exfalso; omega) | (exfalso; exact hok ⟨by assumption, by omega, by omega⟩)))))) | refine l_then ?_ | (refine kC ?_; (first | refine c_seq ?_ | refine c_regionN rfl ?_ | refine c_ret ?_ | (refine kCond ?_; (first | refine c_cond_t rfl ?_ | ((first | refine c_cond_d rfl (fun h => ?_) (fun h => ?_) | refine c_cond_n rfl (fun h => ?_) (fun h => ?_)) <;> (try (first | contradiction | (exfalso; omega) | (exfalso; exact hok ⟨by assumption, by omega, by omega⟩)))))) | refine c_block ?_ | refine c_skip ?_ | refine c_exit ?_)) | (refine kE ?_; (first | refine e_then_r ?_ | refine e_then_n ?_ | refine e_then_x ?_ | refine e_block_n ?_ | refine e_block_x ?_)) | refine l_ends ?_)
    all_goals (refine kE ?_; refine s_leaveSF rfl rfl rfl fwA (fun w hw => ?_))
    all_goals (unfold scaled; rw [if_neg hok]; exact ⟨_, [], rfl, ⟨_, rfl, OInts.nil _⟩, hw.toFresh0⟩)
end Go.Proofs.Ytpcammhmgleonaa
namespace Go.Proofs.Ytpcammhmgleonaa
open Go Sx
attribute [local irreducible] Exit.then Exit.inBlock bodyPost oriented scaled pictureOf rawPicture
theorem c_ifaded (i : DImg) (d : Value) (a : Int) (H : SPiece) (W : World) (hv : OInts 3 d i.data H) (hH : Holds W H) (hn : H.keys.Nodup) :
    SYieldsG Try.prog 138 #[vImg i d, .int .i64 a] H (fun u H' F => u = vImg i d ∧ OInts 3 d (fadedImg i a).data H' ∧ F = []) W := by
  have hml := mapFirst_length (fun p => fade p a) i.data
  have hlen := hv.len
  refine SYieldsG.mk (s_enterM Try.func138 rfl Try.ntmps138 rfl hH hn ?_)
  repeat' (first | exact rfl | (apply kO; (first | exact ov_pure rfl | (apply kOBin; (first | exact aBin)) | (apply kOCall; (first | (apply kCallF; (first | exact (ov_call rfl (fun w hw => c_ifade _ _ w)))) | (apply kCallB; (exact (ov_lenR (fun w hw => (rrA hw)) rfl))))) | (apply kOLoad; (first | exact (ov_ldR0 (fun w hw => (rrA hw)) rfl rfl (by rw [hml]; omega) rfl) | exact aLdF)) | exact ov_fieldAddr rfl | (apply kOIdx; (exact (ov_idxR (fun w hw => (rrA hw)) rfl rfl (by rw [hml]; omega)))))) | (refine kN ?_; (first | (refine kStore ?_; (first | (refine s_setI _ rfl rfl (by assumption) gpA (by rw [hml]; omega) (fun H' hu => ?_)) | refine s_storeS _ rfl rfl gpA rfl rfl (by rfl) ?_ | refine s_storeS _ rfl rfl gpA rfl (ones_img oiA) (by rfl) ?_)) | refine s_boxS rfl rfl (fun b hb => ?_) | refine s_allocS rfl (fun b hb => ?_) | apply s_step)) | (refine kS ?_; (first | refine h_exec rfl ?_ | apply h_take)) | (refine kBack ?_; (first | refine h_back_last rfl ?_ | refine h_backN rfl subA ?_)) | refine l_then ?_ | (refine kC ?_; (first | (refine kReg 4 ?_; refine c_regionSN (SPlan.take 0 (SPlan.take 1 (SPlan.take 2 (SPlan.take 3 (SPlan.take 4 (SPlan.run 5 (SPlan.take 6 (SPlan.run 7 SPlan.done)))))))) (some 7) rfl rfl (by decide +kernel) ?_) | (refine kReg 4 ?_; refine c_regionSN (SPlan.take 0 (SPlan.take 1 (SPlan.take 2 (SPlan.take 3 (SPlan.take 4 (SPlan.run 5 (SPlan.take 6 (SPlan.run 7 SPlan.done)))))))) none rfl rfl (by decide +kernel) ?_) | (refine c_loopV (ι := Nat × SPiece) (fun j => j.1 ≤ i.data.length ∧ OInts 3 d (mapFirst (fun p => fade p a) i.data j.1) j.2) (fun j => [(10, .int .i64 (j.1 : Int))]) (fun j => [_, _, j.2]) (fun j => i.data.length - j.1) (0, _) ⟨by dsimp only; omega, by rw [mapFirst_zero]; exact hv⟩ rfl (fun _ => rfl) ⟨rfl, trivial⟩ (fun w hw => hw) (fun j hj => ?_); obtain ⟨hj1, hj2⟩ := hj) | refine c_seq ?_ | refine c_regionN rfl ?_ | refine c_ret ?_ | (refine kCond ?_; (((refine c_cond_d rfl (fun h => ?_) (fun h => ?_)) <;> (try (first | contradiction | (exfalso; omega)))))) | refine c_block ?_ | refine c_skip ?_ | refine c_exit ?_)) | (refine kE ?_; (first | refine e_then_n ?_ | refine e_then_x ?_ | refine e_block_n ?_ | refine e_block_x ?_)) | refine l_ends ?_)
  · have hs := mapFirst_set (fun p => fade p a) i.data (j := j.1) (by omega)
    rw [Int.toNat_natCast, mapFirst_get _ _ (by omega), hs] at hu
    exact e_round (j.1 + 1, H') ⟨by dsimp only; omega, hu⟩ ⟨rfl, (by repeat' first | exact trivial | refine ⟨rfl, ?_⟩)⟩ (fun w hw => hw) (by dsimp only; omega)
  · rw [mapFirst_all _ _ (by omega)] at hj2
    refine s_leaveSF rfl rfl rfl fwA (fun w hw => ⟨_, _, _, rfl, ⟨rfl, hj2, rfl⟩, (hw.sub (L' := [_]) (by repeat' first | exact List.nil_sublist _ | exact List.Sublist.slnil | refine List.Sublist.cons_cons _ ?_ | refine List.Sublist.cons _ ?_)).lone⟩)
section
variable {n : Nat} {lo : SMut} {s : World} {ops : Array Oper} {Q : Exit → Act → World → Prop} {E : SEnv} {L : SHeap} {dd : Nat} {ty : TypeId} {pos : String} {after : Array Edge} {rest : List Oper}
theorem s_faded (k : Nat) (i : DImg) {d : Value} {a : Int} {H : SPiece} {args : List Operand} {ts : Array TypeId} (ha : svals E args = some [vImg i d, .int .i64 a]) (hv : OInts 3 d i.data H) (hL : getL L k = some H) (hd : Nat.blt dd n = true)
    (c : ∀ H', OInts 3 d (fadedImg i a).data H' → WPL Try.prog n lo s ops Q rest ((dd, vImg i d) :: E) ([] :: setL L k H')) :
    WPL Try.prog n lo s ops Q (⟨some dd, .call { callee := .value (.func 138), args := args.toArray, argTypes := ts }, ty, pos, after, none⟩ :: rest) E L :=
  s_callG k (fun u H' F => u = vImg i d ∧ OInts 3 d (fadedImg i a).data H' ∧ F = []) ha hL (fun w hw hh hn => c_ifaded i d a H w hv hh hn) hd (fun v' H' F hu => by obtain ⟨rfl, hu, rfl⟩ := hu; exact c H' hu)
end
theorem c_surfacePicture (s : DSurf) (d : Value) (W : World) (hok : s.ok) (hd : RInts W d s.buf.data) : SYieldsF Try.prog 93 #[vSurf s d] (fun u H => OImg u (pictureOf s) H) W := by
  have hp : pictureOf s = fadedImg (rawPicture s) s.Alpha := by unfold pictureOf; rw [if_pos hok]
  have hr1 : s.W ≠ 0 → rawPicture s = scaled (oriented s.buf s.Orient) s.W s.H := fun e => by unfold rawPicture; rw [if_pos e]
  have hr2 : ¬ s.W ≠ 0 → rawPicture s = oriented s.buf s.Orient := fun e => by unfold rawPicture; rw [if_neg e]
  (first | apply SYields.mk | apply SYieldsF.mk | skip); refine s_enter Try.func93 rfl Try.ntmps93 rfl ?_
  repeat' (first | exact rfl | (apply kO; (first | exact ov_pure rfl | (apply kOLoad; (exact aLdF)) | exact ov_fieldAddr rfl)) | (refine kN ?_; (first | (refine kCall ?_; (first | (refine kWFunc ?_; (refine s_callF (fun u H => OImg u (oriented s.buf s.Orient) H) rfl (fun w hw => c_ioriented s.buf _ _ w (riA hw)) rfl (fun u H hu => ?_); obtain ⟨d', rfl, hu⟩ := hu; have f1 := hu.form; obtain ⟨_, _, rfl⟩ := f1)) | (refine kWFunc ?_; (refine s_callF (fun u H => OImg u (scaled (oriented s.buf s.Orient) s.W s.H) H) rfl (fun w hw => c_iscaled (oriented s.buf s.Orient) _ _ _ w (riA hw)) rfl (fun u H hu => ?_); obtain ⟨d', rfl, hu⟩ := hu; have f1 := hu.form; obtain ⟨_, _, rfl⟩ := f1)) | (refine kWFn 138 ?_; (refine s_faded _ (scaled (oriented s.buf s.Orient) s.W s.H) rfl (by assumption) gpA rfl (fun H' hu => ?_))) | (refine kWFn 138 ?_; (refine s_faded _ (oriented s.buf s.Orient) rfl (by assumption) gpA rfl (fun H' hu => ?_))) | apply s_step)) | (refine kStore ?_; (first | refine s_storeS _ rfl rfl gpA rfl rfl (by rfl) ?_ | refine s_storeS _ rfl rfl gpA rfl (ones_img oiA) (by rfl) ?_)) | refine s_boxS rfl rfl (fun b hb => ?_) | refine s_allocS rfl (fun b hb => ?_) | apply s_step)) | refine l_then ?_ | (refine kC ?_; (first | refine c_seq ?_ | refine c_regionN rfl ?_ | refine c_ret ?_ | (refine kCond ?_; (((refine c_cond_d rfl (fun h => ?_) (fun h => ?_)) <;> (try (first | contradiction | (exfalso; omega)))))) | refine c_skip ?_)) | (refine kE ?_; (refine e_then_n ?_)))
  all_goals (refine kE ?_; refine s_leaveSF rfl rfl rfl fwA (fun w hw => ?_))
  all_goals (rw [hp]; first | rw [hr1 (by assumption)] | rw [hr2 (by assumption)])
  all_goals exact ⟨_, _, rfl, ⟨_, rfl, hu⟩, hw.toFresh gpA⟩
theorem c_spictureOf (s : DSurf) (d : Value) (W : World) (hd : RInts W d s.buf.data) : SYieldsF Try.prog 124 #[vSurf s d] (fun u H => OImg u (pictureOf s) H) W := by
  by_cases hok : s.ok
  · have hp : pictureOf s = fadedImg (rawPicture s) s.Alpha := by unfold pictureOf; rw [if_pos hok]
    have hsz := hok.2.2.2.1
    unfold DSurf.sized at hsz
    have hr1 : s.W ≠ 0 → rawPicture s = scaled (oriented s.buf s.Orient) s.W s.H := fun e => by unfold rawPicture; rw [if_pos e]
    have hr2 : ¬ s.W ≠ 0 → rawPicture s = oriented s.buf s.Orient := fun e => by unfold rawPicture; rw [if_neg e]
    have hml := fun l => mapFirst_length (fun p => fade p s.Alpha) l
    (first | apply SYields.mk | apply SYieldsF.mk | skip); refine s_enter Try.func124 rfl Try.ntmps124 rfl ?_
    repeat' (first | exact rfl | (apply kO; (first | exact ov_pure rfl | (apply kOBin; (first | exact aBin)) | (apply kOCall; (first | (apply kCallF; (first | exact (ov_call rfl (fun w hw => c_ssurfaceOk s _ w (riA hw))) | exact (ov_call rfl (fun w hw => c_sfade _ _ w)))) | (apply kCallB; (exact aBlt)))) | (apply kOLoad; (first | exact (ov_ldR0 (fun w hw => (rrA hw)) rfl rfl (by rw [hml]; omega) rfl) | exact aLdF)) | exact ov_fieldAddr rfl | (apply kOIdx; (exact (ov_idxR (fun w hw => (rrA hw)) rfl rfl (by rw [hml]; omega)))) | exact aNew)) | (refine kN ?_; (first | (refine kCall ?_; (first | (refine kWFunc ?_; (refine s_callF (fun u H => OImg u (oriented s.buf s.Orient) H) rfl (fun w hw => c_soriented s.buf _ _ w (riA hw)) rfl (fun u H hu => ?_); obtain ⟨d', rfl, hu⟩ := hu; have f1 := hu.form; obtain ⟨_, _, rfl⟩ := f1; have hul := hu.len)) | (refine kWFunc ?_; (refine s_callF (fun u H => OImg u (scaled (oriented s.buf s.Orient) s.W s.H) H) rfl (fun w hw => c_sscaled (oriented s.buf s.Orient) _ _ _ w (riA hw)) rfl (fun u H hu => ?_); obtain ⟨d', rfl, hu⟩ := hu; have f1 := hu.form; obtain ⟨_, _, rfl⟩ := f1; have hul := hu.len)) | apply s_step)) | (refine kStore ?_; (first | (refine s_setI _ rfl rfl (by assumption) gpA (by rw [hml]; omega) (fun H' hu => ?_)) | refine s_storeS _ rfl rfl gpA rfl rfl (by rfl) ?_ | refine s_storeS _ rfl rfl gpA rfl (ones_img oiA) (by rfl) ?_)) | refine s_boxS rfl rfl (fun b hb => ?_) | refine s_allocS rfl (fun b hb => ?_) | apply s_step)) | (refine kS ?_; (first | refine h_exec rfl ?_ | apply h_take)) | (refine kBack ?_; (first | refine h_back_last rfl ?_ | refine h_backN rfl subA ?_)) | refine l_then ?_ | (refine kC ?_; (first | (refine kReg 9 ?_; refine c_regionSN (SPlan.take 0 (SPlan.take 1 (SPlan.take 2 (SPlan.take 3 (SPlan.take 4 (SPlan.take 5 (SPlan.take 6 (SPlan.take 7 (SPlan.take 8 (SPlan.take 9 (SPlan.run 10 (SPlan.take 11 (SPlan.run 12 SPlan.done))))))))))))) (some 12) rfl rfl (by decide +kernel) ?_) | (refine kReg 9 ?_; refine c_regionSN (SPlan.take 0 (SPlan.take 1 (SPlan.take 2 (SPlan.take 3 (SPlan.take 4 (SPlan.take 5 (SPlan.take 6 (SPlan.take 7 (SPlan.take 8 (SPlan.take 9 (SPlan.run 10 (SPlan.take 11 (SPlan.run 12 SPlan.done))))))))))))) none rfl rfl (by decide +kernel) ?_) | (refine c_loopV (ι := Nat × SPiece) (fun j => j.1 ≤ (scaled (oriented s.buf s.Orient) s.W s.H).data.length ∧ OInts 3 _ (mapFirst (fun p => fade p s.Alpha) (scaled (oriented s.buf s.Orient) s.W s.H).data j.1) j.2) (fun j => [(4, .int .i64 (j.1 : Int))]) (fun j => [j.2, _, _, _, _]) (fun j => (scaled (oriented s.buf s.Orient) s.W s.H).data.length - j.1) (0, _) ⟨by dsimp only; omega, by rw [mapFirst_zero]; assumption⟩ rfl (fun _ => rfl) ⟨rfl, trivial⟩ (fun w hw => hw) (fun j hj => ?_); obtain ⟨hj1, hj2⟩ := hj) | (refine c_loopV (ι := Nat × SPiece) (fun j => j.1 ≤ (oriented s.buf s.Orient).data.length ∧ OInts 3 _ (mapFirst (fun p => fade p s.Alpha) (oriented s.buf s.Orient).data j.1) j.2) (fun j => [(4, .int .i64 (j.1 : Int))]) (fun j => [_, j.2, _, _]) (fun j => (oriented s.buf s.Orient).data.length - j.1) (0, _) ⟨by dsimp only; omega, by rw [mapFirst_zero]; assumption⟩ rfl (fun _ => rfl) ⟨rfl, trivial⟩ (fun w hw => hw) (fun j hj => ?_); obtain ⟨hj1, hj2⟩ := hj) | refine c_seq ?_ | refine c_regionN rfl ?_ | refine c_ret ?_ | (refine kCond ?_; (((first | refine c_cond_d rfl (fun h => ?_) (fun h => ?_) | refine c_cond_n rfl (fun h => ?_) (fun h => ?_)) <;> (try (first | contradiction | (exfalso; omega)))))) | refine c_block ?_ | refine c_skip ?_ | refine c_exit ?_)) | (refine kE ?_; (first | refine e_then_r ?_ | refine e_then_n ?_ | refine e_then_x ?_ | refine e_block_n ?_ | refine e_block_x ?_)) | refine l_ends ?_)
    · have hs := mapFirst_set (fun p => fade p s.Alpha) (scaled (oriented s.buf s.Orient) s.W s.H).data (j := j.1) (by omega)
      rw [Int.toNat_natCast, mapFirst_get _ _ (by omega), hs] at hu
      exact e_round (j.1 + 1, H') ⟨by dsimp only; omega, hu⟩ ⟨rfl, (by repeat' first | exact trivial | refine ⟨rfl, ?_⟩)⟩ (fun w hw => hw) (by dsimp only; omega)
    · rw [mapFirst_all _ _ (by omega)] at hj2
      refine s_leaveSF rfl rfl rfl fwA (fun w hw => ⟨_, _, rfl, ?_, hw.toFresh (H := j.2) gpA⟩)
      rw [hp, hr1 (by omega)]
      exact ⟨_, rfl, hj2⟩
    · have hs := mapFirst_set (fun p => fade p s.Alpha) (oriented s.buf s.Orient).data (j := j.1) (by omega)
      rw [Int.toNat_natCast, mapFirst_get _ _ (by omega), hs] at hu
      exact e_round (j.1 + 1, H') ⟨by dsimp only; omega, hu⟩ ⟨rfl, (by repeat' first | exact trivial | refine ⟨rfl, ?_⟩)⟩ (fun w hw => hw) (by dsimp only; omega)
    · rw [mapFirst_all _ _ (by omega)] at hj2
      refine s_leaveSF rfl rfl rfl fwA (fun w hw => ⟨_, _, rfl, ?_, hw.toFresh (H := j.2) gpA⟩)
      rw [hp, hr2 (by omega)]
      exact ⟨_, rfl, hj2⟩
  · (first | apply SYields.mk | apply SYieldsF.mk | skip); refine s_enter Try.func124 rfl Try.ntmps124 rfl ?_
    repeat' (first | exact rfl | (apply kO; (first | exact ov_pure rfl | (apply kOBin; (first | exact aBin)) | (apply kOCall; (first | (apply kCallF; (first | exact (ov_call rfl (fun w hw => c_ssurfaceOk s _ w (riA hw))))) | (apply kCallB; (exact aBlt)))) | (apply kOLoad; (exact aLdF)) | exact ov_fieldAddr rfl | (apply kOIdx; (first | exact aIdx)) | exact aNew)) | (refine kN ?_; (first | (refine kStore ?_; (first | refine s_storeS _ rfl rfl gpA rfl rfl (by rfl) ?_ | refine s_storeS _ rfl rfl gpA rfl (ones_img oiA) (by rfl) ?_)) | refine s_boxS rfl rfl (fun b hb => ?_) | refine s_allocS rfl (fun b hb => ?_) | apply s_step)) | refine l_then ?_ | (refine kC ?_; (first | refine c_seq ?_ | refine c_regionN rfl ?_ | refine c_ret ?_ | (refine kCond ?_; (((first | refine c_cond_d rfl (fun h => ?_) (fun h => ?_) | refine c_cond_n rfl (fun h => ?_) (fun h => ?_)) <;> (try (first | contradiction | (exfalso; omega)))))) | refine c_block ?_ | refine c_skip ?_ | refine c_exit ?_)) | (refine kE ?_; (first | refine e_then_r ?_ | refine e_then_n ?_ | refine e_then_x ?_ | refine e_block_n ?_ | refine e_block_x ?_)) | refine l_ends ?_)
    all_goals (refine kE ?_; refine s_leaveSF rfl rfl rfl fwA (fun w hw => ?_))
    all_goals (unfold pictureOf; rw [if_neg hok]; exact ⟨_, [], rfl, ⟨_, rfl, OInts.nil _⟩, hw.toFresh0⟩)
theorem c_ipictureOf (s : DSurf) (d : Value) (W : World) (hd : RInts W d s.buf.data) : SYieldsF Try.prog 41 #[vSurf s d] (fun u H => OImg u (pictureOf s) H) W := by
  (first | apply SYields.mk | apply SYieldsF.mk | skip); refine s_enter Try.func41 rfl Try.ntmps41 rfl ?_
  repeat' (first | exact rfl | (apply kO; (first | exact ov_pure rfl | (apply kOCall; ((apply kCallF; (first | exact (ov_call rfl (fun w hw => c_isurfaceOk s _ w (riA hw))))))) | (apply kOLoad; (exact aLdF)) | exact aNew)) | (refine kN ?_; (first | (refine kCall ?_; (first | (refine kWFunc ?_; (refine s_callF (fun u H => OImg u (pictureOf s) H) rfl (fun w hw => c_surfacePicture s _ w (by assumption) (riA hw)) rfl (fun u H hu => ?_); obtain ⟨d', rfl, hu⟩ := hu; have f1 := hu.form; obtain ⟨_, _, rfl⟩ := f1)) | apply s_step)) | (refine kStore ?_; (first | refine s_storeS _ rfl rfl gpA rfl rfl (by rfl) ?_ | refine s_storeS _ rfl rfl gpA rfl (ones_img oiA) (by rfl) ?_)) | refine s_boxS rfl rfl (fun b hb => ?_) | refine s_allocS rfl (fun b hb => ?_) | apply s_step)) | refine l_then ?_ | (refine kC ?_; (first | refine c_seq ?_ | refine c_regionN rfl ?_ | refine c_ret ?_ | (refine kCond ?_; (((refine c_cond_n rfl (fun h => ?_) (fun h => ?_)) <;> (try (first | contradiction | (exfalso; omega)))))) | refine c_skip ?_)) | (refine kE ?_; (first | refine e_then_r ?_ | refine e_then_n ?_)))
  all_goals (refine kE ?_; refine s_leaveSF rfl rfl rfl fwA (fun w hw => ?_))
  · unfold pictureOf; rw [if_neg (by assumption)]; exact ⟨_, [], rfl, ⟨_, rfl, OInts.nil _⟩, hw.toFresh0⟩
  · exact ⟨_, _, rfl, ⟨_, rfl, hu⟩, hw.toFresh (i := 0) rfl⟩
theorem c_iisOpaque (s : DSurf) (d : Value) (W : World) (hd : RInts W d s.buf.data) : SYields Try.prog 141 #[vSurf s d] (.bool (decide (isOpaqueS s))) W := by
  (first | apply SYields.mk | apply SYieldsF.mk | skip); refine s_enter Try.func141 rfl Try.ntmps141 rfl ?_
  repeat' (first | exact rfl | (apply kO; (first | exact ov_pure rfl | (apply kOBin; (first | exact aBin)) | (apply kOCall; (first | (apply kCallF; (first | exact (ov_call rfl (fun w hw => c_isurfaceOk s _ w (riA hw))) | exact (ov_call rfl (fun w hw => c_isOpaquePixel _ w)))) | (apply kCallB; (exact aBlt)))) | (apply kOLoad; (first | exact aLdF | exact aLdR)) | (apply kOIdx; (first | exact aIdx)) | exact (ov_field1 (ft := 37) rfl rfl rfl rfl))) | (refine kN ?_; (first | (refine kCall ?_; (first | (refine kWFunc ?_; (refine s_callF (fun u H => OImg u (pictureOf s) H) rfl (fun w hw => c_surfacePicture s _ w (by assumption) (riA hw)) rfl (fun u H hu => ?_); obtain ⟨d', rfl, hu⟩ := hu; have f1 := hu.form; obtain ⟨_, _, rfl⟩ := f1; have hpl := hu.len)) | apply s_step)) | refine s_boxS rfl rfl (fun b hb => ?_) | apply s_step)) | refine l_then ?_ | (refine kC ?_; (first | (refine c_loopV (ι := Nat) (fun j => j ≤ (pictureOf s).data.length ∧ inTo 4278190080 4294967295 (pictureOf s).data j) (fun j => [(12, .int .i64 (j : Int))]) (fun _ => [_, _]) (fun j => (pictureOf s).data.length - j) 0 ⟨by omega, inTo_zero _ _ _⟩ rfl (fun _ => rfl) ⟨rfl, trivial⟩ (fun w hw => hw) (fun j hj => ?_)) | refine c_seq ?_ | refine c_regionN rfl ?_ | refine c_ret ?_ | (refine kCond ?_; (((first | refine c_cond_d rfl (fun h => ?_) (fun h => ?_) | refine c_cond_n rfl (fun h => ?_) (fun h => ?_)) <;> (try (first | contradiction | (exfalso; omega)))))) | refine c_block ?_ | refine c_skip ?_ | refine c_exit ?_)) | (refine kE ?_; (first | refine e_then_r ?_ | refine e_block_r ?_ | refine e_then_n ?_ | refine e_then_x ?_ | refine e_block_n ?_ | refine e_block_x ?_)) | refine l_ends ?_)
  · exact s_leave1 rfl rfl (fun w hw => ⟨ret_false (fun hh => absurd hh.1 (by assumption)), hw.below⟩)
  · exact s_leave1 rfl rfl (fun w hw => ⟨ret_false (fun hh => absurd ((opaqueP_iff _).2 (hh.2 j (by omega))) (by assumption)), hw.below⟩)
  · exact e_round (j + 1) ⟨by omega, inTo_next hj.2 ((opaqueP_iff _).1 (by assumption))⟩ ⟨rfl, (by repeat' first | exact trivial | refine ⟨rfl, ?_⟩)⟩ (fun w hw => hw) (by omega)
  · exact s_leave1 rfl rfl (fun w hw => ⟨ret_true ⟨by assumption, fun q hq => hj.2 q (by omega)⟩, hw.below⟩)
theorem c_sisOpaque (s : DSurf) (d : Value) (W : World) (hd : RInts W d s.buf.data) : SYields Try.prog 109 #[vSurf s d] (.bool (decide (isOpaqueS s))) W := by
  by_cases hok : s.ok
  · have hpk := pictureOf_ok hok
    have hpx := fun k => hpk.pix k
    (first | apply SYields.mk | apply SYieldsF.mk | skip); refine s_enter Try.func109 rfl Try.ntmps109 rfl ?_
    repeat' (first | exact rfl | (apply kO; (first | exact ov_pure rfl | (apply kOBin; (first | exact aBin)) | (apply kOCall; (first | (apply kCallF; (first | exact (ov_call rfl (fun w hw => c_ssurfaceOk s _ w (riA hw))) | exact (ov_call rfl (fun w hw => c_schannelIn _ _ w (hpx _) (by omega))))) | (apply kCallB; (exact aBlt)))) | (apply kOLoad; (first | exact aLdF | exact aLdR)) | exact ov_fieldAddr rfl | (apply kOIdx; (first | exact aIdx)))) | (refine kN ?_; (first | (refine kCall ?_; (first | (refine kWFunc ?_; (refine s_callF (fun u H => OImg u (pictureOf s) H) rfl (fun w hw => c_spictureOf s _ w (riA hw)) rfl (fun u H hu => ?_); obtain ⟨d', rfl, hu⟩ := hu; have f1 := hu.form; obtain ⟨_, _, rfl⟩ := f1; have hpl := hu.len)) | apply s_step)) | (refine kStore ?_; (first | refine s_storeS _ rfl rfl gpA rfl rfl (by rfl) ?_ | refine s_storeS _ rfl rfl gpA rfl (ones_img oiA) (by rfl) ?_)) | refine s_boxS rfl rfl (fun b hb => ?_) | refine s_allocS rfl (fun b hb => ?_) | apply s_step)) | refine l_then ?_ | (refine kC ?_; (first | (refine c_loopV (ι := Nat) (fun j => j ≤ (pictureOf s).data.length ∧ inTo 4278190080 4294967295 (pictureOf s).data j) (fun j => [(4, .int .i64 (j : Int))]) (fun _ => [_, _, _]) (fun j => (pictureOf s).data.length - j) 0 ⟨by omega, inTo_zero _ _ _⟩ rfl (fun _ => rfl) ⟨rfl, trivial⟩ (fun w hw => hw) (fun j hj => ?_)) | refine c_seq ?_ | refine c_regionN rfl ?_ | refine c_ret ?_ | (refine kCond ?_; (((refine c_cond_d rfl (fun h => ?_) (fun h => ?_)) <;> (try (first | contradiction | (exfalso; omega)))))) | refine c_block ?_ | refine c_skip ?_ | refine c_exit ?_)) | (refine kE ?_; (first | refine e_then_r ?_ | refine e_block_r ?_ | refine e_then_n ?_ | refine e_then_x ?_ | refine e_block_n ?_ | refine e_block_x ?_)) | refine l_ends ?_)
    all_goals try simp only [Int.toNat_natCast] at *
    · exact s_leave1 rfl rfl (fun w hw => ⟨ret_false (fun hh => absurd ((opaqueP_iff _).2 (hh.2 j (by omega))).2 (by assumption)), hw.below⟩)
    · exact e_round (j + 1) ⟨by omega, inTo_next hj.2 ((opaqueP_iff _).1 ⟨hpx j, by omega⟩)⟩ ⟨rfl, (by repeat' first | exact trivial | refine ⟨rfl, ?_⟩)⟩ (fun w hw => hw) (by omega)
    · exact s_leave1 rfl rfl (fun w hw => ⟨ret_dec ⟨fun hh => ⟨hh, fun q hq => hj.2 q (by omega)⟩, fun hh => hh.1⟩, hw.below⟩)
  · have hz : pictureOf s = DImg.zero := by unfold pictureOf; rw [if_neg hok]
    have hz0 : (pictureOf s).data.length = 0 := by rw [hz]; rfl
    (first | apply SYields.mk | apply SYieldsF.mk | skip); refine s_enter Try.func109 rfl Try.ntmps109 rfl ?_
    repeat' (first | exact rfl | (apply kO; (first | exact ov_pure rfl | (apply kOBin; (first | exact aBin)) | (apply kOCall; (first | (apply kCallF; (first | exact (ov_call rfl (fun w hw => c_ssurfaceOk s _ w (riA hw))))) | (apply kCallB; (exact aBlt)))) | (apply kOLoad; (first | exact aLdF | exact aLdR)) | exact ov_fieldAddr rfl | (apply kOIdx; (first | exact aIdx)))) | (refine kN ?_; (first | (refine kCall ?_; (first | (refine kWFunc ?_; (refine s_callF (fun u H => OImg u (pictureOf s) H) rfl (fun w hw => c_spictureOf s _ w (riA hw)) rfl (fun u H hu => ?_); obtain ⟨d', rfl, hu⟩ := hu; have f1 := hu.form; obtain ⟨_, _, rfl⟩ := f1; have hpl := hu.len)) | apply s_step)) | (refine kStore ?_; (first | refine s_storeS _ rfl rfl gpA rfl rfl (by rfl) ?_ | refine s_storeS _ rfl rfl gpA rfl (ones_img oiA) (by rfl) ?_)) | refine s_boxS rfl rfl (fun b hb => ?_) | refine s_allocS rfl (fun b hb => ?_) | apply s_step)) | refine l_then ?_ | (refine kC ?_; (first | (refine c_loopV (ι := Nat) (fun j => j = 0) (fun j => [(4, .int .i64 (j : Int))]) (fun _ => [_, _, _]) (fun j => (pictureOf s).data.length - j) 0 rfl rfl (fun _ => rfl) ⟨rfl, trivial⟩ (fun w hw => hw) (fun j hj => ?_)) | refine c_seq ?_ | refine c_regionN rfl ?_ | refine c_ret ?_ | (refine kCond ?_; (((refine c_cond_d rfl (fun h => ?_) (fun h => ?_)) <;> (try (first | contradiction | (exfalso; omega)))))) | refine c_block ?_ | refine c_skip ?_ | refine c_exit ?_)) | (refine kE ?_; (first | refine e_then_r ?_ | refine e_block_r ?_ | refine e_then_n ?_ | refine e_then_x ?_ | refine e_block_n ?_ | refine e_block_x ?_)) | refine l_ends ?_)
    all_goals exact s_leave1 rfl rfl (fun w hw => ⟨ret_dec ⟨fun hh => absurd hh hok, fun hh => hh.1⟩, hw.below⟩)
end Go.Proofs.Ytpcammhmgleonaa
namespace Go.Proofs.Ytpcammhmgleonaa
open Go Sx
attribute [local irreducible] Exit.then Exit.inBlock bodyPost oriented scaled pictureOf rawPicture
theorem apart_new {s w : World} {L : SHeap} {i : Nat} {H : SPiece} {v : Value} {l : List Int} (hw : SSt [] s L w) (hL : getL L i = some H) (hv : RInts s v l) (hne : 0 < l.length) : Apart H.keys v := by
  unfold Apart
  intro hm
  obtain ⟨⟨k, o⟩, h1, h2⟩ := List.mem_map.1 hm
  have h3 := hv.cell 0 hne 0 _ rfl
  have h4 := World.block_lt_of_cell? s _ h3
  have h5 := (hw.blocks k o (getL_flat hL h1)).1
  simp only [List.not_mem_nil, false_or] at h5
  dsimp only at h2 h4
  omega
theorem pic_len {s : DSurf} (h : s.ok) : (pictureOf s).data.length = ((surfSize s).1 * (surfSize s).2).toNat := by
  have h1 := surfSize_pic h
  rw [(pictureOf_ok h).lenN, h1.1, h1.2]
def rowsG (r : DRect) (j : Nat) : Grid := fun y x => r.holds y x && decide ((y : Int) < r.Y + j)
theorem rowsG_zero (r : DRect) : (rowsG r 0).eqv Grid.none := fun y x hy hx => by
  unfold rowsG DRect.holds Grid.none
  rw [← Bool.decide_and]; exact decide_eq_false (fun hh => by have h1 := hh.1.2; have h2 := hh.2; omega)
theorem rowsG_next {r : DRect} (h : r.ok) (h0 : 0 ≤ r.X ∧ 0 ≤ r.Y) {j : Nat} (hj : (j : Int) < r.H) : (Grid.row (rowsG r j) (r.Y + j).toNat (fun i => decide (r.X.toNat ≤ i ∧ i < r.X.toNat + r.W.toNat))).eqv (rowsG r (j + 1)) := fun y x hy hx => by
  have h' := h
  unfold DRect.ok at h'
  unfold Grid.row rowsG DRect.holds
  by_cases e : y = (r.Y + j).toNat
  · subst e
    rw [if_pos rfl, ← Bool.decide_and]
    exact decide_eq_decide.2 ⟨fun hh => ⟨⟨h, by omega⟩, by push_cast; omega⟩, fun hh => by have h1 := hh.1.2; omega⟩
  · rw [if_neg e, ← Bool.decide_and, ← Bool.decide_and]
    exact decide_eq_decide.2 ⟨fun hh => ⟨hh.1, by push_cast; omega⟩, fun hh => ⟨hh.1, by have h1 := hh.2; have h2 := hh.1.2; push_cast at h1; omega⟩⟩
theorem rowsG_all {r : DRect} {j : Nat} (hj : r.H ≤ (j : Int)) : (rowsG r j).eqv (rectG r) := fun y x hy hx => by
  unfold rowsG rectG DRect.holds
  rw [← Bool.decide_and]
  exact decide_eq_decide.2 ⟨fun hh => hh.1, fun hh => ⟨hh, by have := hh.2; omega⟩⟩
theorem inter_screen_in (r : DRect) : 0 ≤ (r.inter DRect.screen).X ∧ 0 ≤ (r.inter DRect.screen).Y ∧ 0 ≤ (r.inter DRect.screen).W ∧ 0 ≤ (r.inter DRect.screen).H ∧ (r.inter DRect.screen).X + (r.inter DRect.screen).W ≤ 16 ∧ (r.inter DRect.screen).Y + (r.inter DRect.screen).H ≤ 16 := by
  by_cases h : r.ok
  · unfold DRect.inter
    rw [if_pos ⟨h, screen_ok⟩]
    unfold DRect.ok at h
    split
    · unfold DRect.zero; dsimp only; omega
    · rename_i hh; unfold DRect.screen at hh ⊢; dsimp only at hh ⊢; omega
  · rw [inter_not (.inl h)]; unfold DRect.zero; dsimp only; omega
theorem span_val {X W : Int} (h1 : 0 ≤ X) (h2 : 0 ≤ W) (h3 : X + W ≤ 16) : (((2 ^ W.toNat : Nat) : Int) - 1) * 2 ^ X.toNat = (Sx.bits (fun i => decide (X.toNat ≤ i ∧ i < X.toNat + W.toNat)) 16 : Nat) := by
  rw [← bits_span (X := X.toNat) (W := W.toNat) (n := 16) (by omega)]
  have : 1 ≤ 2 ^ W.toNat := Nat.pow_pos (by omega)
  push_cast [this]
  rfl
section
variable {P : Program} {n : Nat} {lo : SMut} {s : World} {E : SEnv} {L : SHeap} {d : Option Tmp} {ty : TypeId} {pos : String} {after : Array Edge} {g0 : Option (Nat × Bool)} {x y : Operand} {xt yt : TypeId}
theorem ov_span {kj : IntKind} {X W : Int} (hx : sval E x = some (.int .i64 (((2 ^ W.toNat : Nat) : Int) - 1))) (hy : sval E y = some (.int kj X)) (h1 : 0 ≤ X) (h2 : 0 ≤ W) (h3 : X + W ≤ 16) :
    SOpV P n lo s E L ⟨d, .binOp .shl xt x y yt, ty, pos, after, g0⟩ (.int .i64 (Sx.bits (fun i => decide (X.toNat ≤ i ∧ i < X.toNat + W.toNat)) 16 : Nat)) := by
  have hb := bits16 (fun i => decide (X.toNat ≤ i ∧ i < X.toNat + W.toNat))
  rw [← span_val h1 h2 h3] at hb ⊢
  exact ov_shl hx hy (by omega) (by omega)
end
theorem pow_bd {j : Int} (h : 0 ≤ j ∧ j ≤ 16) : 1 ≤ ((2 ^ j.toNat : Nat) : Int) ∧ ((2 ^ j.toNat : Nat) : Int) ≤ 65536 := by
  have h1 : 2 ^ j.toNat ≤ 2 ^ 16 := Nat.pow_le_pow_right (by omega) (by omega)
  have h2 : 0 < 2 ^ j.toNat := Nat.pow_pos (by omega)
  have hm : ∀ m : Nat, 0 < m → m ≤ 2 ^ 16 → 1 ≤ (m : Int) ∧ (m : Int) ≤ 65536 := fun m a b => by omega
  exact hm _ h2 h1
theorem mapTo_pixD {f : Int → Int → Int} (h : ∀ x y, pixP (f x y)) (w : Int) (n q : Nat) : pixP ((mapTo f w n).getD q 0) := by
  by_cases e : q < n
  · rw [mapTo_get f w e]; exact h _ _
  · rw [List.getD_eq_getElem?_getD, List.getElem?_eq_none (by rw [mapTo_length]; omega)]; unfold pixP; simp
theorem c_gridOf (r0 : DRect) (w : World) : SYields Try.prog 61 #[vRect r0] (gval (rectG r0)) w := by
  rw [← gval_congr (inter_screen (r := r0))]
  have hin := inter_screen_in r0
  have hok : (r0.inter DRect.screen).ok := by unfold DRect.ok; omega
  (first | apply SYields.mk | apply SYieldsF.mk | skip); refine s_enter Try.func61 rfl Try.ntmps61 rfl ?_
  repeat' (first | exact rfl | (apply kO; (first | exact ov_pure rfl | (apply kOBin; (first | exact aBin | exact (ov_sub rfl rfl (by have := pow_bd (j := (r0.inter DRect.screen).W) (by omega); omega)))) | (apply kOCall; ((apply kCallF; (first | exact (ov_call rfl (fun w hw => c_iintersect r0 DRect.screen w)))))) | (apply kOLoad; (exact aLdF)) | exact ov_fieldAddr rfl | (apply kOIdx; (exact (ov_indexAddrA rfl rfl (by omega)))) | exact (ov_bit rfl rfl (by omega)) | exact (ov_span rfl rfl (by omega) (by omega) (by omega)) | exact (ov_buildA0) | exact aNew)) | (refine kN ?_; (first | (refine kStore ?_; (first | (refine s_setR _ rfl rfl gpA rfl (by simp [gl]; omega) ?_) | refine s_storeS _ rfl rfl gpA rfl rfl (by rfl) ?_ | refine s_storeS _ rfl rfl gpA rfl (ones_img oiA) (by rfl) ?_)) | refine s_boxS rfl rfl (fun b hb => ?_) | refine s_allocS rfl (fun b hb => ?_) | apply s_step)) | (refine kS ?_; (first | refine h_exec rfl ?_ | apply h_take)) | (refine kBack ?_; (refine h_back_last rfl ?_)) | refine l_then ?_ | (refine kC ?_; (first | (refine kReg 6 ?_; refine c_regionSN (SPlan.take 0 (SPlan.take 1 (SPlan.take 2 (SPlan.take 3 (SPlan.take 4 (SPlan.take 5 (SPlan.take 6 (SPlan.take 7 (SPlan.take 8 (SPlan.run 9 SPlan.done)))))))))) (some 9) rfl rfl (by decide +kernel) ?_) | (refine kReg 6 ?_; refine c_regionSN (SPlan.take 0 (SPlan.take 1 (SPlan.take 2 (SPlan.take 3 (SPlan.take 4 (SPlan.take 5 (SPlan.take 6 (SPlan.take 7 (SPlan.take 8 (SPlan.run 9 SPlan.done)))))))))) none rfl rfl (by decide +kernel) ?_) | (refine c_loopV (ι := Nat) (fun j => (j : Int) ≤ (r0.inter DRect.screen).H) (fun j => [(4, .int .i64 ((r0.inter DRect.screen).Y + j))]) (fun j => [[(_, srow (gl (rowsG (r0.inter DRect.screen) j)) _)], _, _]) (fun j => (r0.inter DRect.screen).H.toNat - j) 0 (by omega) rfl (fun _ => rfl) ⟨slook_to rfl (vint_to (by simp)), trivial⟩ (fun w hw => by rw [gl_congr (rowsG_zero _)]; exact hw) (fun j hj => ?_)) | refine c_seq ?_ | refine c_regionN rfl ?_ | refine c_ret ?_ | (refine kCond ?_; (((refine c_cond_d rfl (fun h => ?_) (fun h => ?_)) <;> (try (first | contradiction | (exfalso; omega)))))) | refine c_block ?_ | refine c_skip ?_ | refine c_exit ?_)) | (refine kE ?_; (first | refine e_then_n ?_ | refine e_then_x ?_ | refine e_block_n ?_ | refine e_block_x ?_)) | refine l_ends ?_)
  · refine e_round (j + 1) (by push_cast; omega) ⟨slook_to rfl (vint_to (by push_cast; omega)), (by repeat' first | exact trivial | refine ⟨rfl, ?_⟩)⟩ (fun w hw => ?_) (by omega)
    have e : (gl (rowsG (r0.inter DRect.screen) j)).set (0 + ((r0.inter DRect.screen).Y + j).toNat * 1) (.int .i64 (Sx.bits (fun i => decide ((r0.inter DRect.screen).X.toNat ≤ i ∧ i < (r0.inter DRect.screen).X.toNat + (r0.inter DRect.screen).W.toNat)) 16 : Nat)) = gl (rowsG (r0.inter DRect.screen) (j + 1)) := by
      rw [Nat.zero_add, Nat.mul_one, gl_set _ (by omega), gl_congr (rowsG_next hok ⟨by omega, by omega⟩ (by omega))]
    rw [← e]; exact hw
  · refine s_leaveSF rfl rfl rfl fwA (fun w hw => ⟨?_, hw.below⟩)
    show Ending.returned (gval (rowsG (r0.inter DRect.screen) j)) = _
    rw [gval_congr (rowsG_all (by omega))]
set_option maxHeartbeats 2000000 in
theorem c_paintOne (pw ph : Int) (old : Int → Int → Int) (v : Value) (q : DSurf) (ds : Value) (g : Grid) (H : SPiece) (W : World) (hpw : 1 ≤ pw ∧ pw ≤ 16) (hph : 1 ≤ ph ∧ ph ≤ 16) (hq : q.ok) (hpx : ∀ a c, pixP (old a c)) (hv : OInts 3 v (mapTo old pw (pw * ph).toNat) H) (hd : RInts W ds q.buf.data) (hap : Apart H.keys ds) (hH : Holds W H) (hn : H.keys.Nodup) :
    SYieldsG Try.prog 106 #[.agg #[.int .i64 pw, .int .i64 ph, v], vSurf q ds, gval g] H (fun u H' F => u = .int .i64 (hitN q g pw ph ((surfSize q).1 * (surfSize q).2).toNat) ∧ OInts 3 v (mapTo (oneTo q g old ((surfSize q).1 * (surfSize q).2).toNat) pw (pw * ph).toNat) H' ∧ F = []) W := by
  have hpl := pic_len hq
  have hsz := surfSize_bd hq
  have hps := surfSize_pic hq
  have hwh := side_mul (w := pw) (h := ph) ⟨hpw.1, hpw.2, hph.1, hph.2⟩
  have hN := side_mul (w := (surfSize q).1) (h := (surfSize q).2) ⟨hsz.1.1, hsz.1.2, hsz.2.1, hsz.2.2⟩
  have hq' := hq
  unfold DSurf.ok at hq'
  have hm := fun k => mod_row (w := (pictureOf q).W) (q := k) (by rw [hps.1]; exact hsz.1.1)
  have hdv := fun (k : Nat) (hk : k < ((surfSize q).1 * (surfSize q).2).toNat) => div_lt (w := (surfSize q).1) (h := (surfSize q).2) (q := k) hsz.1.1 hk
  have hhb := fun k => hitN_bd q g pw ph k
  have hdv' := fun (k : Nat) (hk : k < ((surfSize q).1 * (surfSize q).2).toNat) => (show (k : Int) / (pictureOf q).W < (surfSize q).2 by rw [hps.1]; exact hdv k hk)
  have hpok := pictureOf_ok hq
  have pic_pix := fun k => hpok.pix k
  have one_pix := fun (k : Nat) x y => oneTo_pix hq g k (hpx x y)
  refine SYieldsG.mk (s_enterM Try.func106 rfl Try.ntmps106 rfl hH hn ?_)
  repeat' (first | exact rfl | (apply kO; (first | exact ov_pure rfl | (apply kOBin; (first | exact aBin | exact (ov_andBit rfl rfl (by omega)) | exact (ov_add rfl rfl (by have := hm k.1; have := hdv' k.1 (by omega); omega)) | exact (ov_add rfl rfl (by have := hhb k.1; omega)) | exact (ov_mul rfl rfl (by have := mul_bd (a := q.Y + (k.1 : Int) / (pictureOf q).W) (b := pw) (A := 16) (B := 16) (by omega) (by omega); omega)) | exact (ov_add rfl rfl (by have := mul_bd (a := q.Y + (k.1 : Int) / (pictureOf q).W) (b := pw) (A := 16) (B := 16) (by omega) (by omega); omega)))) | (apply kOCall; (first | (apply kCallF; (first | exact (ov_call rfl (fun w hw => c_within _ _ _ w)) | exact (ov_call rfl (fun w hw => c_iover _ _ w (pic_pix _) (mapTo_pixD (one_pix k.1) _ _ _))))) | (apply kCallB; (exact aBlt)))) | (apply kOLoad; (first | exact (ov_ldG g rfl rfl gpA (by omega)) | exact (ov_ldR0 (fun w hw => (rrA hw)) rfl rfl (by rw [mapTo_length]; have := place_lt (w := pw) (h := ph) (x := q.X + (k.1 : Int) % (pictureOf q).W) (y := q.Y + (k.1 : Int) / (pictureOf q).W) (by omega) (by omega); omega) rfl) | exact aLdF | exact aLdR)) | exact ov_fieldAddr rfl | (apply kOIdx; (first | exact (ov_indexAddrA rfl rfl (by omega)) | exact (ov_idxR (fun w hw => (rrA hw)) rfl rfl (by rw [mapTo_length]; have := place_lt (w := pw) (h := ph) (x := q.X + (k.1 : Int) % (pictureOf q).W) (y := q.Y + (k.1 : Int) / (pictureOf q).W) (by omega) (by omega); omega)) | exact aIdx)) | exact (ov_bit rfl rfl (by omega)))) | (refine kN ?_; (first | (refine kCall ?_; (first | (refine kWFn 93 ?_; (refine s_callF (fun u H => OImg u (pictureOf q) H) rfl (fun w hw => c_surfacePicture q _ w hq (riA hw)) rfl (fun u H1 hu => ?_); obtain ⟨d', rfl, hu⟩ := hu; have f1 := hu.form; obtain ⟨_, _, rfl⟩ := f1)) | apply s_step)) | (refine kStore ?_; (first | (refine s_setI _ rfl rfl (by assumption) gpA (by rw [mapTo_length]; have := place_lt (w := pw) (h := ph) (x := q.X + (k.1 : Int) % (pictureOf q).W) (y := q.Y + (k.1 : Int) / (pictureOf q).W) (by omega) (by omega); omega) (fun H' hst => ?_)) | refine s_storeS _ rfl rfl gpA rfl rfl (by rfl) ?_ | refine s_storeS _ rfl rfl gpA rfl (ones_img oiA) (by rfl) ?_)) | refine s_boxS rfl rfl (fun b hb => ?_) | refine s_allocS rfl (fun b hb => ?_) | apply s_step)) | (refine kS ?_; (first | refine h_exec rfl ?_ | apply h_take)) | (refine kBack ?_; (first | refine h_back_last rfl ?_ | refine h_backN rfl subA ?_)) | refine l_then ?_ | (refine kC ?_; (first | (refine kReg 8 ?_; refine c_regionSN (SPlan.take 0 (SPlan.take 1 (SPlan.take 2 (SPlan.take 3 (SPlan.take 4 (SPlan.take 5 (SPlan.take 6 (SPlan.take 7 (SPlan.take 8 (SPlan.take 9 (SPlan.take 10 (SPlan.take 11 (SPlan.take 12 (SPlan.take 13 (SPlan.take 14 (SPlan.take 15 (SPlan.take 16 (SPlan.take 17 (SPlan.take 18 (SPlan.run 19 (SPlan.take 20 (SPlan.run 21 SPlan.done)))))))))))))))))))))) (some 21) rfl rfl (by decide +kernel) ?_) | (refine kReg 8 ?_; refine c_regionSN (SPlan.take 0 (SPlan.take 1 (SPlan.take 2 (SPlan.take 3 (SPlan.take 4 (SPlan.take 5 (SPlan.take 6 (SPlan.take 7 (SPlan.take 8 (SPlan.take 9 (SPlan.take 10 (SPlan.take 11 (SPlan.take 12 (SPlan.take 13 (SPlan.take 14 (SPlan.take 15 (SPlan.take 16 (SPlan.take 17 (SPlan.take 18 (SPlan.run 19 (SPlan.take 20 (SPlan.run 21 SPlan.done)))))))))))))))))))))) none rfl rfl (by decide +kernel) ?_) | (refine c_loopV (ι := Nat × SPiece) (fun k => k.1 ≤ ((surfSize q).1 * (surfSize q).2).toNat ∧ OInts 3 v (mapTo (oneTo q g old k.1) pw (pw * ph).toNat) k.2) (fun k => [(8, .int .i64 (hitN q g pw ph k.1)), (18, .int .i64 (k.1 : Int))]) (fun k => [_, _, _, _, _, k.2]) (fun k => ((surfSize q).1 * (surfSize q).2).toNat - k.1) (0, _) ⟨by dsimp only; omega, by rw [show oneTo q g old 0 = old by funext x y; exact oneTo_zero hq g old x y]; exact hv⟩ rfl (fun _ => rfl) ⟨rfl, rfl, trivial⟩ (fun w hw => hw) (fun k hk => ?_); obtain ⟨hk1, hk2⟩ := hk) | refine c_seq ?_ | refine c_regionN rfl ?_ | refine c_ret ?_ | (refine kCond ?_; (first | refine c_cond_f rfl ?_ | ((refine c_cond_d rfl (fun h => ?_) (fun h => ?_)) <;> (try (first | contradiction | (exfalso; omega)))))) | refine c_block ?_ | refine c_skip ?_ | refine c_exit ?_ | refine c_regionQN rfl rfl (by decide +kernel) ?_)) | apply s_stepQ | (refine kQG ?_; (first | refine s_gyesQ rfl rfl rfl ?_ | refine s_gnoQ rfl rfl rfl rfl rfl ?_ | ((refine s_splitQ_d rfl rfl (fun h => ?_) (fun h => ?_)) <;> (try (first | contradiction | (exfalso; omega)))))) | refine lQ_then ?_ | (refine kE ?_; (first | refine e_then_n ?_ | refine e_then_x ?_ | refine e_block_n ?_ | refine e_block_x ?_)) | refine l_ends ?_)
  · rename_i h1 h2 h3
    have hkN : k.1 < ((surfSize q).1 * (surfSize q).2).toNat := by omega
    have ekx : q.X + (k.1 : Int) % (pictureOf q).W = kx q k.1 := by unfold kx; rw [hps.1]
    have eky : q.Y + (k.1 : Int) / (pictureOf q).W = ky q k.1 := by unfold ky; rw [hps.1]
    rw [ekx] at h2
    rw [eky] at h3
    rw [ekx, eky] at h hst
    have hmi := one_hit hq (g := g) (old := old) (w := pw) (h := ph) hkN h2 h3 (bit_ne.1 h)
    rw [Int.toNat_natCast, hmi.1] at hst
    exact e_round (k.1 + 1, H') ⟨by dsimp only; omega, hst⟩ ⟨slook_to rfl (vint_to hmi.2), slook_to rfl (vint_to (by push_cast; rfl)), (by repeat' first | exact trivial | refine ⟨rfl, ?_⟩)⟩ (fun w hw => hw) (by dsimp only; omega)
  · rename_i h1 h2 h3
    have hkN : k.1 < ((surfSize q).1 * (surfSize q).2).toNat := by omega
    have ekx : q.X + (k.1 : Int) % (pictureOf q).W = kx q k.1 := by unfold kx; rw [hps.1]
    have eky : q.Y + (k.1 : Int) / (pictureOf q).W = ky q k.1 := by unfold ky; rw [hps.1]
    rw [ekx, eky] at h
    have hmi := one_miss hq (g := g) (old := old) (w := pw) (h := ph) hpw.1 hkN (fun hh => h (bit_ne.2 hh.2))
    rw [← hmi.1] at hk2
    exact e_round (k.1 + 1, k.2) ⟨by dsimp only; omega, hk2⟩ ⟨slook_to rfl (vint_to hmi.2.symm), slook_to rfl (vint_to (by push_cast; rfl)), (by repeat' first | exact trivial | refine ⟨rfl, ?_⟩)⟩ (fun w hw => hw) (by dsimp only; omega)
  · rename_i h1 h2
    have hkN : k.1 < ((surfSize q).1 * (surfSize q).2).toNat := by omega
    have ekx : q.X + (k.1 : Int) % (pictureOf q).W = kx q k.1 := by unfold kx; rw [hps.1]
    have eky : q.Y + (k.1 : Int) / (pictureOf q).W = ky q k.1 := by unfold ky; rw [hps.1]
    rw [eky] at h
    have hmi := one_miss hq (g := g) (old := old) (w := pw) (h := ph) hpw.1 hkN (fun hh => h hh.1.2)
    rw [← hmi.1] at hk2
    exact e_round (k.1 + 1, k.2) ⟨by dsimp only; omega, hk2⟩ ⟨slook_to rfl (vint_to hmi.2.symm), slook_to rfl (vint_to (by push_cast; rfl)), (by repeat' first | exact trivial | refine ⟨rfl, ?_⟩)⟩ (fun w hw => hw) (by dsimp only; omega)
  · rename_i h1
    have hkN : k.1 < ((surfSize q).1 * (surfSize q).2).toNat := by omega
    have ekx : q.X + (k.1 : Int) % (pictureOf q).W = kx q k.1 := by unfold kx; rw [hps.1]
    have eky : q.Y + (k.1 : Int) / (pictureOf q).W = ky q k.1 := by unfold ky; rw [hps.1]
    rw [ekx] at h
    have hmi := one_miss hq (g := g) (old := old) (w := pw) (h := ph) hpw.1 hkN (fun hh => h hh.1.1)
    rw [← hmi.1] at hk2
    exact e_round (k.1 + 1, k.2) ⟨by dsimp only; omega, hk2⟩ ⟨slook_to rfl (vint_to hmi.2.symm), slook_to rfl (vint_to (by push_cast; rfl)), (by repeat' first | exact trivial | refine ⟨rfl, ?_⟩)⟩ (fun w hw => hw) (by dsimp only; omega)
  · have hkN : k.1 = ((surfSize q).1 * (surfSize q).2).toNat := by omega
    rw [hkN] at hk2
    exact s_leave1 rfl (slook_to rfl (vint_to (by rw [hkN]))) (fun w hw => ⟨_, k.2, [], rfl, ⟨rfl, hk2, rfl⟩, (hw.sub (L' := [_]) (selO_sub [false, false, false, false, false, true] _ _ rfl)).lone⟩)
end Go.Proofs.Ytpcammhmgleonaa
namespace Go.Proofs.Ytpcammhmgleonaa
open Go Sx
attribute [local irreducible] Exit.then Exit.inBlock bodyPost oriented scaled pictureOf rawPicture
theorem c_imageRect (p q : Int) (v : Value) (w : World) : SYields Try.prog 104 #[.agg #[.int .i64 p, .int .i64 q, v]] (vRect ⟨0, 0, p, q⟩) w := by
  (first | apply SYields.mk | apply SYieldsF.mk | skip); refine s_enter Try.func104 rfl Try.ntmps104 rfl ?_
  repeat' (first | exact rfl | (apply kO; (first | (apply kOLoad; (exact aLdF)) | exact ov_fieldAddr rfl | exact aNew)) | (refine kN ?_; (first | (refine kStore ?_; (first | refine s_storeS _ rfl rfl gpA rfl rfl (by rfl) ?_ | refine s_storeS _ rfl rfl gpA rfl (ones_img oiA) (by rfl) ?_)) | refine s_boxS rfl rfl (fun b hb => ?_) | refine s_allocS rfl (fun b hb => ?_) | (refine s_boxS rfl rfl (fun b hb => ?_)) | apply s_step)) | refine l_then ?_ | (refine kC ?_; (first | refine c_seq ?_ | refine c_regionN rfl ?_ | refine c_ret ?_)))
  all_goals exact s_leaveSF rfl rfl rfl fwA (fun w hw => ⟨rfl, hw.below⟩)
set_option maxHeartbeats 2000000 in
theorem c_painted (s : DScene) (v : Value) (W : World) (hok : s.ok) (hv : RS eSurf W v s.ss) : SYieldsF Try.prog 91 #[vScene s v] (fun u H => OImg u (painted s) H) W := by
  have hve := hv
  obtain ⟨ds, hv⟩ := hv
  have hl := hv.row.len
  have hW := hok.1
  have hH := hok.2.1
  have hn := hok.2.2.2.1
  have hpos := fun (k : Nat) (hk : k < s.ss.length) => ((getD_ok hok hk).2.2.2.2.2.2.len).1
  (first | apply SYields.mk | apply SYieldsF.mk | skip); refine s_enter Try.func91 rfl Try.ntmps91 rfl ?_
  repeat' (first | exact rfl | (apply kO; (first | exact ov_pure rfl | (apply kOBin; (first | exact aBin)) | (apply kOCall; (first | (apply kCallF; (first | exact (ov_call rfl (fun w hw => c_imageRect _ _ _ w)) | exact (ov_call rfl (fun w hw => c_gridOf _ w)))) | (apply kCallB; (exact aLenR)))) | (apply kOLoad; (first | exact aLdF | exact aLdR)) | exact ov_fieldAddr rfl | (apply kOIdx; (first | exact aIdx)))) | (refine kN ?_; (first | (refine kCall ?_; (first | (refine kWFn 103 ?_; (refine s_callF (fun u H => OImg u ⟨s.W, s.H, mapTo (paintTo s 0) s.W (s.W * s.H).toNat⟩ H) rfl (fun w hw => (by rw [newPaint s]; exact c_inewImage s.W s.H s.Back w hW hH hok.back)) rfl (fun u H hu => ?_); obtain ⟨d', rfl, hu⟩ := hu; have f1 := hu.form; obtain ⟨_, _, rfl⟩ := f1)) | (refine kWFn 106 ?_; (refine s_callG _ (H := j.2) (fun u H' F => u = .int .i64 (hitN (s.ss.getD j.1 default) (rectG ⟨0, 0, s.W, s.H⟩) s.W s.H ((surfSize (s.ss.getD j.1 default)).1 * (surfSize (s.ss.getD j.1 default)).2).toNat) ∧ OInts 3 _ (mapTo (oneTo (s.ss.getD j.1 default) (rectG ⟨0, 0, s.W, s.H⟩) (paintTo s j.1) ((surfSize (s.ss.getD j.1 default)).1 * (surfSize (s.ss.getD j.1 default)).2).toNat) s.W (s.W * s.H).toNat) H' ∧ F = []) rfl gpA (fun w hw hh hn => c_paintOne s.W s.H (paintTo s j.1) _ (s.ss.getD j.1 default) _ (rectG ⟨0, 0, s.W, s.H⟩) j.2 w hW hH (getD_ok hok (by omega)) (paintTo_pix hok j.1) hj2 (RInts.keep (hv.rd _ (by omega)) (hw.cells rfl)) (apart_new hw gpA (hv.rd _ (by omega)) (hpos _ (by omega))) hh hn) rfl (fun u H' F hst => ?_); obtain ⟨rfl, hst, rfl⟩ := hst)) | apply s_step)) | (refine kStore ?_; (first | (refine s_storeS _ rfl rfl gpA rfl (eSurf_ones (RInts.one (hv.rd _ (by omega)))) (by rfl) ?_) | refine s_storeS _ rfl rfl gpA rfl rfl (by rfl) ?_ | refine s_storeS _ rfl rfl gpA rfl (ones_img oiA) (by rfl) ?_)) | refine s_boxS rfl rfl (fun b hb => ?_) | refine s_allocS rfl (fun b hb => ?_) | apply s_step)) | refine l_then ?_ | (refine kC ?_; (first | (refine c_loopV (ι := Nat × SPiece) (fun j => j.1 ≤ s.ss.length ∧ OInts 3 _ (mapTo (paintTo s j.1) s.W (s.W * s.H).toNat) j.2) (fun j => [(20, .int .i64 (j.1 : Int))]) (fun j => [_, _, j.2, _, _]) (fun j => s.ss.length - j.1) (0, _) ⟨by dsimp only; omega, hu⟩ rfl (fun _ => rfl) ⟨rfl, trivial⟩ (fun w hw => hw) (fun j hj => ?_); obtain ⟨hj1, hj2⟩ := hj) | refine c_seq ?_ | refine c_regionN rfl ?_ | refine c_ret ?_ | (refine kCond ?_; (first | ((refine c_cond_d rfl (fun h => ?_) (fun h => ?_)) <;> (try (first | contradiction | (exfalso; omega)))) | refine c_cond rfl (fun h => ?_) (fun h => ?_))) | refine c_block ?_ | refine c_skip ?_ | refine c_exit ?_)) | (refine kE ?_; (first | refine e_then_n ?_ | refine e_then_x ?_ | refine e_block_n ?_ | refine e_block_x ?_)) | refine l_ends ?_)
  · rename_i h1
    rw [painted_step hok (k := j.1) (by omega) h] at hst
    exact e_round (j.1 + 1, H') ⟨by dsimp only; omega, hst⟩ ⟨slook_to rfl (vint_to (by push_cast; rfl)), (by repeat' first | exact trivial | refine ⟨rfl, ?_⟩)⟩ (fun w hw => hw.sub (selO_sub [false, false, true, true, true, true, true] _ _ rfl)) (by dsimp only; omega)
  · rename_i h1
    have h' : (s.ss.getD j.1 default).Visible = false := h
    have e := painted_skip (s := s) (k := j.1) (by omega) (by rw [h']; exact Bool.false_ne_true)
    rw [← e] at hj2
    exact e_round (j.1 + 1, j.2) ⟨by dsimp only; omega, hj2⟩ ⟨slook_to rfl (vint_to (by push_cast; rfl)), (by repeat' first | exact trivial | refine ⟨rfl, ?_⟩)⟩ (fun w hw => hw.sub (selO_sub [false, true, true, true, true, true] _ _ rfl)) (by dsimp only; omega)
  · have e : paintTo s j.1 = paintF s := by funext x y; rw [show j.1 = s.ss.length by omega]; exact paintTo_all s x y
    rw [e] at hj2
    exact s_leaveSF rfl rfl rfl fwA (fun w hw => ⟨_, _, rfl, ⟨_, rfl, hj2⟩, hw.toFresh (H := j.2) gpA⟩)
end Go.Proofs.Ytpcammhmgleonaa
namespace Go.Proofs.Ytpcammhmgleonaa
open Go Sx
attribute [local irreducible] Exit.then Exit.inBlock bodyPost oriented scaled pictureOf rawPicture
set_option maxHeartbeats 4000000 in
theorem c_l11Paint (s : DScene) (v : Value) (W : World) (hok : s.ok) (hv : RS eSurf W v s.ss) : SYieldsF Try.prog 67 #[vScene s v] (fun u H => OImg u (painted s) H) W := by
  have hve := hv
  obtain ⟨ds, hv⟩ := hv
  have hl := hv.row.len
  have hW := hok.1
  have hH := hok.2.1
  have hn := hok.2.2.2.1
  have hb0 := hok.back
  unfold pixP at hb0
  have hrd := fun (k : Nat) (hk : k < s.ss.length) => hv.rd k hk
  have hpokk := fun (k : Nat) (hk : k < s.ss.length) q => (pictureOf_ok (getD_ok hok hk)).pix q
  have hpn := fun (k : Nat) (hk : k < s.ss.length) => (pictureOf_ok (getD_ok hok hk)).lenN
  have hwh := side_mul (w := s.W) (h := s.H) ⟨hW.1, hW.2, hH.1, hH.2⟩
  have hpm := fun (k : Nat) (hk : k < s.ss.length) => (⟨(pictureOf_ok (getD_ok hok hk)).1, (pictureOf_ok (getD_ok hok hk)).2.1, side_mul (w := (pictureOf (s.ss.getD k default)).W) (h := (pictureOf (s.ss.getD k default)).H) ⟨(pictureOf_ok (getD_ok hok hk)).1.1, (pictureOf_ok (getD_ok hok hk)).1.2, (pictureOf_ok (getD_ok hok hk)).2.1.1, (pictureOf_ok (getD_ok hok hk)).2.1.2⟩⟩ : _ ∧ _ ∧ _)
  have hbp := fun (k j i : Nat) x y => boxTo_pix (r := ((surfRect (s.ss.getD k default)).inter ⟨0, 0, s.W, s.H⟩)) (f := fun a c => over (pixOf (s.ss.getD k default) a c) (paintTo s k a c)) (old := paintTo s k) (fun a c => over_pixP (pixOf_pix _ a c) (paintTo_pix hok k a c)) (paintTo_pix hok k) j i x y
  have hib := fun (k : Nat) => box_bd (s := s.ss.getD k default) hW hH
  (first | apply SYields.mk | apply SYieldsF.mk | skip); refine s_enter Try.func67 rfl Try.ntmps67 rfl ?_
  repeat' (first | exact rfl | (apply kO; (first | exact ov_pure rfl | (apply kOBin; (first | exact aBin | exact (ov_add rfl rfl (by have := hib k.1; omega)) | exact (ov_sub rfl rfl (by have := hib k.1; omega)) | exact (ov_mul rfl rfl (by have hbx := box_at (getD_ok hok (k := k.1) (by omega)) hW hH (j := j.1) (i := i.1) (by omega) (by omega); have := mul_bd (a := ((surfRect (s.ss.getD k.1 default)).inter ⟨0, 0, s.W, s.H⟩).Y + (j.1 : Int)) (b := s.W) (A := 16) (B := 16) (by omega) (by omega); omega)) | exact (ov_add rfl rfl (by have hbx := box_at (getD_ok hok (k := k.1) (by omega)) hW hH (j := j.1) (i := i.1) (by omega) (by omega); have hpl := place_lt (w := s.W) (h := s.H) hbx.1 hbx.2.1; omega)) | exact (ov_sub rfl rfl (by have hbx := box_at (getD_ok hok (k := k.1) (by omega)) hW hH (j := j.1) (i := i.1) (by omega) (by omega); omega)) | exact (ov_mul rfl rfl (by have hbx := box_at (getD_ok hok (k := k.1) (by omega)) hW hH (j := j.1) (i := i.1) (by omega) (by omega); have hpmk := hpm k.1 (by omega); have := mul_bd (a := ((surfRect (s.ss.getD k.1 default)).inter ⟨0, 0, s.W, s.H⟩).Y + (j.1 : Int) - (surfRect (s.ss.getD k.1 default)).Y) (b := (pictureOf (s.ss.getD k.1 default)).W) (A := 16) (B := 16) (by omega) (by omega); omega)) | exact (ov_add rfl rfl (by have hbx := box_at (getD_ok hok (k := k.1) (by omega)) hW hH (j := j.1) (i := i.1) (by omega) (by omega); have hpq := place_lt (w := (pictureOf (s.ss.getD k.1 default)).W) (h := (pictureOf (s.ss.getD k.1 default)).H) hbx.2.2.1 hbx.2.2.2.1; have hpmk := hpm k.1 (by omega); omega)) | exact (ov_sub rfl rfl (by have hbx := box_at (getD_ok hok (k := k.1) (by omega)) hW hH (j := j.1) (i := i.1) (by omega) (by omega); have hpq := place_lt (w := (pictureOf (s.ss.getD k.1 default)).W) (h := (pictureOf (s.ss.getD k.1 default)).H) hbx.2.2.1 hbx.2.2.2.1; have hpmk := hpm k.1 (by omega); omega)))) | (apply kOCall; (first | (apply kCallF; (first | exact (ov_call rfl (fun w hw => c_ssurfaceRect (s.ss.getD k.1 default) _ w (RInts.keep (hv.rd _ (by omega)) (hw.cells rfl)))) | exact (ov_call rfl (fun w hw => c_sintersect (surfRect (s.ss.getD k.1 default)) ⟨0, 0, s.W, s.H⟩ w)) | exact (ov_call rfl (fun w hw => c_sover _ _ w (hpokk k.1 (by omega) _) (mapTo_pixD (hbp k.1 j.1 i.1) _ _ _))))) | (apply kCallB; (exact aLenR)))) | (apply kOLoad; (first | exact (ov_ldR0 (fun w hw => (rrA hw)) rfl rfl (by rw [mapTo_length]; have hbx := box_at (getD_ok hok (k := k.1) (by omega)) hW hH (j := j.1) (i := i.1) (by omega) (by omega); have hpl := place_lt (w := s.W) (h := s.H) hbx.1 hbx.2.1; omega) rfl) | exact (ov_ldR0 (fun w hw => (rrA hw)) rfl rfl (by have hbx := box_at (getD_ok hok (k := k.1) (by omega)) hW hH (j := j.1) (i := i.1) (by omega) (by omega); have hpq := place_lt (w := (pictureOf (s.ss.getD k.1 default)).W) (h := (pictureOf (s.ss.getD k.1 default)).H) hbx.2.2.1 hbx.2.2.2.1; have hpmk := hpm k.1 (by omega); have := hpn k.1 (by omega); omega) rfl) | exact aLdF | exact aLdR)) | exact ov_fieldAddr rfl | (apply kOIdx; (first | exact (ov_idxR (fun w hw => (rrA hw)) rfl rfl (by rw [mapTo_length]; have hbx := box_at (getD_ok hok (k := k.1) (by omega)) hW hH (j := j.1) (i := i.1) (by omega) (by omega); have hpl := place_lt (w := s.W) (h := s.H) hbx.1 hbx.2.1; omega)) | exact (ov_idxR (fun w hw => (rrA hw)) rfl rfl (by have hbx := box_at (getD_ok hok (k := k.1) (by omega)) hW hH (j := j.1) (i := i.1) (by omega) (by omega); have hpq := place_lt (w := (pictureOf (s.ss.getD k.1 default)).W) (h := (pictureOf (s.ss.getD k.1 default)).H) hbx.2.2.1 hbx.2.2.2.1; have hpmk := hpm k.1 (by omega); have := hpn k.1 (by omega); omega)) | exact aIdx)) | exact aNew)) | (refine kN ?_; (first | (refine kCall ?_; (first | (refine kWFn 123 ?_; (refine s_callF (fun u H => OImg u ⟨s.W, s.H, mapTo (paintTo s 0) s.W (s.W * s.H).toNat⟩ H) rfl (fun w hw => (by have h1 := c_snewImage s.W s.H s.Back w; unfold newImage at h1; rw [if_pos ⟨hW, hH, hok.back⟩] at h1; rw [newPaint s]; exact h1)) rfl (fun u H hu => ?_); obtain ⟨d', rfl, hu⟩ := hu; have f1 := hu.form; obtain ⟨_, _, rfl⟩ := f1)) | (refine kWFn 124 ?_; (refine s_callF (fun u H => OImg u (pictureOf (s.ss.getD k.1 default)) H) rfl (fun w hw => c_spictureOf (s.ss.getD k.1 default) _ w (RInts.keep (hv.rd _ (by omega)) (hw.cells rfl))) rfl (fun u H1 hpic => ?_); obtain ⟨d2, rfl, hpic⟩ := hpic; have f1 := hpic.form; obtain ⟨_, _, rfl⟩ := f1)) | apply s_step)) | (refine kStore ?_; (first | (refine s_setI _ rfl rfl (by assumption) gpA (by rw [mapTo_length]; have hbx := box_at (getD_ok hok (k := k.1) (by omega)) hW hH (j := j.1) (i := i.1) (by omega) (by omega); have hpl := place_lt (w := s.W) (h := s.H) hbx.1 hbx.2.1; omega) (fun H' hst => ?_)) | refine s_storeS _ rfl rfl gpA rfl rfl (by rfl) ?_ | refine s_storeS _ rfl rfl gpA rfl (ones_img oiA) (by rfl) ?_)) | refine s_boxS rfl rfl (fun b hb => ?_) | refine s_allocS rfl (fun b hb => ?_) | apply s_step)) | (refine kS ?_; (first | refine h_exec rfl ?_ | apply h_take)) | (refine kBack ?_; (first | refine h_back_last rfl ?_ | refine h_backN rfl subA ?_)) | refine l_then ?_ | (refine kC ?_; (first | (refine kReg 14 ?_; refine c_regionSN (SPlan.take 0 (SPlan.take 1 (SPlan.take 2 (SPlan.take 3 (SPlan.take 4 (SPlan.take 5 (SPlan.take 6 (SPlan.take 7 (SPlan.take 8 (SPlan.take 9 (SPlan.take 10 (SPlan.take 11 (SPlan.take 12 (SPlan.take 13 (SPlan.take 14 (SPlan.take 15 (SPlan.take 16 (SPlan.take 17 (SPlan.take 18 (SPlan.take 19 (SPlan.take 20 (SPlan.take 21 (SPlan.take 22 (SPlan.take 23 (SPlan.take 24 (SPlan.take 25 (SPlan.take 26 (SPlan.take 27 (SPlan.take 28 (SPlan.take 29 (SPlan.take 30 (SPlan.take 31 (SPlan.take 32 (SPlan.take 33 (SPlan.run 34 (SPlan.take 35 (SPlan.run 36 SPlan.done))))))))))))))))))))))))))))))))))))) (some 36) rfl rfl (by decide +kernel) ?_) | (refine kReg 14 ?_; refine c_regionSN (SPlan.take 0 (SPlan.take 1 (SPlan.take 2 (SPlan.take 3 (SPlan.take 4 (SPlan.take 5 (SPlan.take 6 (SPlan.take 7 (SPlan.take 8 (SPlan.take 9 (SPlan.take 10 (SPlan.take 11 (SPlan.take 12 (SPlan.take 13 (SPlan.take 14 (SPlan.take 15 (SPlan.take 16 (SPlan.take 17 (SPlan.take 18 (SPlan.take 19 (SPlan.take 20 (SPlan.take 21 (SPlan.take 22 (SPlan.take 23 (SPlan.take 24 (SPlan.take 25 (SPlan.take 26 (SPlan.take 27 (SPlan.take 28 (SPlan.take 29 (SPlan.take 30 (SPlan.take 31 (SPlan.take 32 (SPlan.take 33 (SPlan.run 34 (SPlan.take 35 (SPlan.run 36 SPlan.done))))))))))))))))))))))))))))))))))))) none rfl rfl (by decide +kernel) ?_) | (refine c_loopV (ι := Nat × SPiece) (fun k => k.1 ≤ s.ss.length ∧ OInts 3 _ (mapTo (paintTo s k.1) s.W (s.W * s.H).toNat) k.2) (fun k => [(4, .int .i64 (k.1 : Int))]) (fun k => [_, k.2, _, _]) (fun k => s.ss.length - k.1) (0, _) ⟨by dsimp only; omega, hu⟩ rfl (fun _ => rfl) ⟨rfl, trivial⟩ (fun w hw => hw) (fun k hk => ?_); obtain ⟨hk1, hk2⟩ := hk) | (refine c_loopV (ι := Nat × SPiece) (fun j => (j.1 : Int) ≤ max 0 ((surfRect (s.ss.getD k.1 default)).inter ⟨0, 0, s.W, s.H⟩).H ∧ OInts 3 _ (mapTo (boxTo ((surfRect (s.ss.getD k.1 default)).inter ⟨0, 0, s.W, s.H⟩) (fun a c => over (pixOf (s.ss.getD k.1 default) a c) (paintTo s k.1 a c)) (paintTo s k.1) j.1 0) s.W (s.W * s.H).toNat) j.2) (fun j => [(8, .int .i64 (((surfRect (s.ss.getD k.1 default)).inter ⟨0, 0, s.W, s.H⟩).Y + (j.1 : Int)))]) (fun j => [_, _, _, _, _, j.2, _, _]) (fun j => ((surfRect (s.ss.getD k.1 default)).inter ⟨0, 0, s.W, s.H⟩).H.toNat - j.1) (0, _) ⟨by dsimp only; omega, by rw [boxTo_zero]; exact hk2⟩ rfl (fun _ => rfl) ⟨slook_to rfl (vint_to (by simp)), trivial⟩ (fun w hw => hw) (fun j hj => ?_); obtain ⟨hj1, hj2⟩ := hj) | (refine c_loopV (ι := Nat × SPiece) (fun i => (i.1 : Int) ≤ max 0 ((surfRect (s.ss.getD k.1 default)).inter ⟨0, 0, s.W, s.H⟩).W ∧ OInts 3 _ (mapTo (boxTo ((surfRect (s.ss.getD k.1 default)).inter ⟨0, 0, s.W, s.H⟩) (fun a c => over (pixOf (s.ss.getD k.1 default) a c) (paintTo s k.1 a c)) (paintTo s k.1) j.1 i.1) s.W (s.W * s.H).toNat) i.2) (fun i => [(9, .int .i64 (((surfRect (s.ss.getD k.1 default)).inter ⟨0, 0, s.W, s.H⟩).X + (i.1 : Int)))]) (fun i => [_, _, _, _, _, i.2, _, _]) (fun i => ((surfRect (s.ss.getD k.1 default)).inter ⟨0, 0, s.W, s.H⟩).W.toNat - i.1) (0, _) ⟨by dsimp only; omega, hj2⟩ rfl (fun _ => rfl) ⟨slook_to rfl (vint_to (by simp)), trivial⟩ (fun w hw => hw) (fun i hi => ?_); obtain ⟨hi1, hi2⟩ := hi) | refine c_seq ?_ | refine c_regionN rfl ?_ | refine c_ret ?_ | (refine kCond ?_; (((refine c_cond_d rfl (fun h => ?_) (fun h => ?_)) <;> (try (first | contradiction | (exfalso; omega)))))) | refine c_block ?_ | refine c_skip ?_ | refine c_exit ?_)) | (refine kE ?_; (first | refine e_then_n ?_ | refine e_then_x ?_ | refine e_block_n ?_ | refine e_block_x ?_)) | refine l_ends ?_)
  · have hbk := hib k.1
    rw [box_step (getD_ok hok (k := k.1) (by omega)) hW hH (paintTo s k.1) (by omega) (by omega)] at hst
    exact e_round (i.1 + 1, H') ⟨by dsimp only; omega, hst⟩ ⟨slook_to rfl (vint_to (by push_cast; omega)), (by repeat' first | exact trivial | refine ⟨rfl, ?_⟩)⟩ (fun w hw => hw) (by dsimp only; omega)
  · have hbk := hib k.1
    rw [boxTo_row (by omega)] at hi2
    exact e_round (j.1 + 1, i.2) ⟨by dsimp only; omega, hi2⟩ ⟨slook_to rfl (vint_to (by push_cast; omega)), (by repeat' first | exact trivial | refine ⟨rfl, ?_⟩)⟩ (fun w hw => hw) (by dsimp only; omega)
  · have hbk := hib k.1
    rw [box_done hok (k := k.1) (by omega) (by omega)] at hj2
    exact e_round (k.1 + 1, j.2) ⟨by dsimp only; omega, hj2⟩ ⟨slook_to rfl (vint_to (by push_cast; rfl)), (by repeat' first | exact trivial | refine ⟨rfl, ?_⟩)⟩ (fun w hw => hw.sub (selO_sub [false, false, false, false, true, true, true, true] _ _ rfl)) (by dsimp only; omega)
  · have e : paintTo s k.1 = paintF s := by funext x y; rw [show k.1 = s.ss.length by omega]; exact paintTo_all s x y
    rw [e] at hk2
    exact s_leaveSF rfl rfl rfl fwA (fun w hw => ⟨_, _, rfl, ⟨_, rfl, hk2⟩, hw.toFresh (H := k.2) gpA⟩)
end Go.Proofs.Ytpcammhmgleonaa
namespace Go.Proofs.Ytpcammhmgleonaa
open Go Sx
attribute [local irreducible] Exit.then Exit.inBlock bodyPost oriented scaled pictureOf rawPicture painted
theorem painted_dim (s : DScene) : (painted s).W = s.W ∧ (painted s).H = s.H := by unfold painted; exact ⟨rfl, rfl⟩
theorem painted_len {s : DScene} (h : s.ok) : (painted s).data.length = (s.W * s.H).toNat := by
  have := (painted_ok h).lenN
  rw [(painted_dim s).1, (painted_dim s).2] at this
  exact this
theorem painted_get {s : DScene} (h : s.ok) {x y : Int} (hx : 0 ≤ x ∧ x ≤ s.W - 1) (hy : 0 ≤ y ∧ y ≤ s.H - 1) : (painted s).data.getD (y * s.W + x).toNat 0 = paintAt s x y := by
  unfold paintAt
  rw [if_pos ⟨h, hx, hy⟩]
  unfold painted
  exact fimg_at (paintF s) ⟨hx.1, by omega⟩ ⟨hy.1, by omega⟩
theorem paintAt_out {s : DScene} {x y : Int} (h : ¬ (s.ok ∧ (0 ≤ x ∧ x ≤ s.W - 1) ∧ (0 ≤ y ∧ y ≤ s.H - 1))) : paintAt s x y = -1 := by unfold paintAt; rw [if_neg h]
theorem c_ipaintAt (s : DScene) (v : Value) (x y : Int) (W : World) (hv : RS eSurf W v s.ss) : SYields Try.prog 40 #[vScene s v, .int .i64 x, .int .i64 y] (.int .i64 (paintAt s x y)) W := by
  by_cases hok : s.ok
  · have hwh := side_mul (w := s.W) (h := s.H) ⟨hok.1.1, hok.1.2, hok.2.1.1, hok.2.1.2⟩
    have hW := hok.1
    have hH := hok.2.1
    have hlen := painted_len hok
    have hdim := painted_dim s
    (first | apply SYields.mk | apply SYieldsF.mk | skip); refine s_enter Try.func40 rfl Try.ntmps40 rfl ?_
    repeat' (first | exact rfl | (apply kO; (first | exact ov_pure rfl | (apply kOBin; (first | exact aBin | exact (ov_mul rfl rfl (by have := mul_bd (a := y) (b := s.W) (A := 16) (B := 16) (by omega) (by omega); omega)) | exact (ov_add rfl rfl (by have := mul_bd (a := y) (b := s.W) (A := 16) (B := 16) (by omega) (by omega); omega)))) | (apply kOCall; ((apply kCallF; (first | exact (ov_call rfl (fun w hw => c_isceneOk _ _ w (hv.keep (hw.cells rfl)))) | exact (ov_call rfl (fun w hw => c_within _ _ _ w)))))) | (apply kOLoad; (first | exact (ov_ldR0 (fun w hw => (rrA hw)) rfl rfl (by have := place_lt (w := s.W) (h := s.H) (x := x) (y := y) (by omega) (by omega); omega) rfl) | exact aLdF)) | exact ov_fieldAddr rfl | (apply kOIdx; (exact (ov_idxR (fun w hw => (rrA hw)) rfl rfl (by have := place_lt (w := s.W) (h := s.H) (x := x) (y := y) (by omega) (by omega); omega)))) | exact (ov_field1 (ft := 37) rfl rfl rfl rfl))) | (refine kN ?_; (first | (refine kCall ?_; (first | (refine kWFn 91 ?_; (refine s_callF (fun u H => OImg u (painted s) H) rfl (fun w hw => c_painted s _ w hok (hv.keep (hw.cells rfl))) rfl (fun u H hu => ?_); obtain ⟨d', rfl, hu⟩ := hu; have f1 := hu.form; obtain ⟨_, _, rfl⟩ := f1)) | apply s_step)) | refine s_boxS rfl rfl (fun b hb => ?_) | apply s_step)) | (refine kG ?_; (first | refine s_gyes rfl rfl rfl ?_ | refine s_gno rfl rfl rfl rfl rfl ?_ | ((refine s_split_n rfl rfl (fun h => ?_) (fun h => ?_)) <;> (try (first | contradiction | (exfalso; omega) | (exfalso; exact absurd hok (by assumption))))))) | (refine kS ?_; (first | refine h_exec rfl ?_ | apply h_take)) | (refine kBack ?_; (first | refine h_back_last rfl ?_ | refine h_backN rfl subA ?_)) | refine l_then ?_ | (refine kC ?_; (first | (refine kReg 3 ?_; refine c_regionSN (SPlan.take 0 (SPlan.take 3 (SPlan.take 4 (SPlan.take 5 (SPlan.take 6 (SPlan.take 7 (SPlan.take 8 (SPlan.run 1 (SPlan.run 2 (SPlan.run 9 (SPlan.run 10 (SPlan.run 11 SPlan.done)))))))))))) (some 11) rfl rfl (by decide +kernel) ?_) | (refine kReg 3 ?_; refine c_regionSN (SPlan.take 0 (SPlan.take 3 (SPlan.take 4 (SPlan.take 5 (SPlan.take 6 (SPlan.take 7 (SPlan.take 8 (SPlan.run 1 (SPlan.run 2 (SPlan.run 9 (SPlan.run 10 (SPlan.run 11 SPlan.done)))))))))))) none rfl rfl (by decide +kernel) ?_) | refine c_seq ?_ | refine c_regionN rfl ?_ | refine c_ret ?_ | (refine kCond ?_; (first | refine c_cond_t rfl ?_ | ((refine c_cond_n rfl (fun h => ?_) (fun h => ?_)) <;> (try (first | contradiction | (exfalso; omega) | (exfalso; exact absurd hok (by assumption))))))) | refine c_skip ?_)) | (refine kE ?_; (first | refine e_then_r ?_ | refine e_then_n ?_)))
    all_goals refine s_leave1 rfl rfl (fun w hw => ⟨ret_int ?_, hw.below⟩)
    all_goals first | exact painted_get hok (by omega) (by omega) | exact (paintAt_out (fun hh => absurd hh.2.1 (by assumption))).symm | exact (paintAt_out (fun hh => absurd hh.2.2 (by assumption))).symm
  · (first | apply SYields.mk | apply SYieldsF.mk | skip); refine s_enter Try.func40 rfl Try.ntmps40 rfl ?_
    repeat' (first | exact rfl | (apply kO; (first | exact ov_pure rfl | (apply kOBin; (first | exact aBin)) | (apply kOCall; ((apply kCallF; (first | exact (ov_call rfl (fun w hw => c_isceneOk _ _ w (hv.keep (hw.cells rfl)))))))) | (apply kOLoad; (exact aLdF)) | exact ov_fieldAddr rfl | (apply kOIdx; (first | exact aIdx)) | exact (ov_field1 (ft := 37) rfl rfl rfl rfl))) | (refine kN ?_; (first | refine s_boxS rfl rfl (fun b hb => ?_) | apply s_step)) | (refine kG ?_; (first | refine s_gyes rfl rfl rfl ?_ | refine s_gno rfl rfl rfl rfl rfl ?_ | ((refine s_split_n rfl rfl (fun h => ?_) (fun h => ?_)) <;> (try (first | contradiction | (exfalso; omega) | (exfalso; exact absurd (by assumption) hok)))))) | refine l_then ?_ | (refine kC ?_; (first | refine c_seq ?_ | refine c_regionN rfl ?_ | refine c_ret ?_ | (refine kCond ?_; (first | refine c_cond_t rfl ?_ | ((refine c_cond_n rfl (fun h => ?_) (fun h => ?_)) <;> (try (first | contradiction | (exfalso; omega) | (exfalso; exact absurd (by assumption) hok)))))) | refine c_skip ?_)) | (refine kE ?_; (first | refine e_then_r ?_ | refine e_then_n ?_)))
    all_goals exact s_leave1 rfl rfl (fun w hw => ⟨ret_int (paintAt_out (fun hh => hok hh.1)).symm, hw.below⟩)
theorem c_l05At (i : DImg) (d : Value) (x y : Int) (W : World) (hi : i.ok) (hd : RInts W d i.data) : SYields Try.prog 99 #[vImg i d, .int .i64 x, .int .i64 y] (.int .i64 (if (0 ≤ x ∧ x ≤ i.W - 1) ∧ (0 ≤ y ∧ y ≤ i.H - 1) then i.data.getD (y * i.W + x).toNat 0 else -1)) W := by
  have hW := (hi).1; have hH := (hi).2.1; have hlen := (hi).2.2.1; have hlenN := (hi).lenN; have hwh := side_mul (w := i.W) (h := i.H) ⟨(hi).1.1, (hi).1.2, (hi).2.1.1, (hi).2.1.2⟩
  (first | apply SYields.mk | apply SYieldsF.mk | skip); refine s_enter Try.func99 rfl Try.ntmps99 rfl ?_
  repeat' (first | exact rfl | (apply kO; (first | exact ov_pure rfl | (apply kOBin; (first | exact (ov_mul rfl rfl (by have := mul_bd (a := y) (b := i.W) (A := 16) (B := 16) (by omega) (by omega); omega)) | exact (ov_add rfl rfl (by have := mul_bd (a := y) (b := i.W) (A := 16) (B := 16) (by omega) (by omega); omega)))) | (apply kOLoad; (first | exact (ov_ldR0 (fun w hw => (rrA hw)) rfl rfl (by have := place_lt (w := i.W) (h := i.H) (x := x) (y := y) (by omega) (by omega); omega) rfl) | exact aLdF)) | exact ov_fieldAddr rfl | (apply kOIdx; (exact (ov_idxR (fun w hw => (rrA hw)) rfl rfl (by have := place_lt (w := i.W) (h := i.H) (x := x) (y := y) (by omega) (by omega); omega)))))) | (refine kN ?_; (first | refine s_boxS rfl rfl (fun b hb => ?_) | apply s_step)) | (refine kG ?_; (first | refine s_gyes rfl rfl rfl ?_ | refine s_gno rfl rfl rfl rfl rfl ?_ | ((refine s_split_d rfl rfl (fun h => ?_) (fun h => ?_)) <;> (try (first | contradiction | (exfalso; omega)))))) | refine l_then ?_ | (refine kC ?_; (first | refine c_seq ?_ | refine c_regionN rfl ?_ | refine c_ret ?_ | (refine kCond ?_; (first | refine c_cond_t rfl ?_ | ((refine c_cond_d rfl (fun h => ?_) (fun h => ?_)) <;> (try (first | contradiction | (exfalso; omega)))))) | refine c_skip ?_)) | (refine kE ?_; (first | refine e_then_r ?_ | refine e_then_n ?_)))
  all_goals refine s_leave1 rfl rfl (fun w hw => ⟨ret_int ?_, hw.below⟩)
  all_goals first | (rw [if_pos (by omega)]; done) | (rw [if_neg (by omega)]; done)
theorem c_ipaint (s : DScene) (v : Value) (W : World) (hv : RS eSurf W v s.ss) : SYieldsF Try.prog 39 #[vScene s v] (fun u H => OImg u (paint s) H) W := by
  by_cases hok : s.ok
  · have hp : paint s = painted s := by unfold paint; rw [if_pos hok]
    rw [hp]
    (first | apply SYields.mk | apply SYieldsF.mk | skip); refine s_enter Try.func39 rfl Try.ntmps39 rfl ?_
    repeat' (first | exact rfl | (apply kO; (first | exact ov_pure rfl | (apply kOCall; ((apply kCallF; (first | exact (ov_call rfl (fun w hw => c_isceneOk _ _ w (hv.keep (hw.cells rfl)))))))) | (apply kOLoad; (exact aLdF)) | exact aNew)) | (refine kN ?_; (first | (refine kCall ?_; (first | (refine kWFn 91 ?_; (refine s_callF (fun u H => OImg u (painted s) H) rfl (fun w hw => c_painted s _ w hok (hv.keep (hw.cells rfl))) rfl (fun u H hu => ?_); obtain ⟨d', rfl, hu⟩ := hu; have f1 := hu.form; obtain ⟨_, _, rfl⟩ := f1)) | apply s_step)) | (refine kStore ?_; (first | refine s_storeS _ rfl rfl gpA rfl rfl (by rfl) ?_ | refine s_storeS _ rfl rfl gpA rfl (ones_img oiA) (by rfl) ?_)) | refine s_boxS rfl rfl (fun b hb => ?_) | refine s_allocS rfl (fun b hb => ?_) | apply s_step)) | refine l_then ?_ | (refine kC ?_; (first | refine c_seq ?_ | refine c_regionN rfl ?_ | refine c_ret ?_ | (refine kCond ?_; (((refine c_cond_n rfl (fun h => ?_) (fun h => ?_)) <;> (try (first | contradiction | (exfalso; omega) | (exfalso; exact absurd hok (by assumption))))))) | refine c_skip ?_)) | (refine kE ?_; (first | refine e_then_r ?_ | refine e_then_n ?_)))
    all_goals (refine kE ?_; refine s_leaveSF rfl rfl rfl fwA (fun w hw => ?_))
    all_goals exact ⟨_, _, rfl, ⟨_, rfl, hu⟩, hw.toFresh (H := H) gpA⟩
  · have hp : paint s = DImg.zero := by unfold paint; rw [if_neg hok]
    rw [hp]
    (first | apply SYields.mk | apply SYieldsF.mk | skip); refine s_enter Try.func39 rfl Try.ntmps39 rfl ?_
    repeat' (first | exact rfl | (apply kO; (first | exact ov_pure rfl | (apply kOCall; ((apply kCallF; (first | exact (ov_call rfl (fun w hw => c_isceneOk _ _ w (hv.keep (hw.cells rfl)))))))) | (apply kOLoad; (exact aLdF)) | exact aNew)) | (refine kN ?_; (first | (refine kStore ?_; (first | refine s_storeS _ rfl rfl gpA rfl rfl (by rfl) ?_ | refine s_storeS _ rfl rfl gpA rfl (ones_img oiA) (by rfl) ?_)) | refine s_boxS rfl rfl (fun b hb => ?_) | refine s_allocS rfl (fun b hb => ?_) | apply s_step)) | refine l_then ?_ | (refine kC ?_; (first | refine c_seq ?_ | refine c_regionN rfl ?_ | refine c_ret ?_ | (refine kCond ?_; (((refine c_cond_n rfl (fun h => ?_) (fun h => ?_)) <;> (try (first | contradiction | (exfalso; omega) | (exfalso; exact absurd (by assumption) hok)))))) | refine c_skip ?_)) | (refine kE ?_; (first | refine e_then_r ?_ | refine e_then_n ?_)))
    all_goals (refine kE ?_; refine s_leaveSF rfl rfl rfl fwA (fun w hw => ?_))
    all_goals exact ⟨_, [], rfl, ⟨_, rfl, OInts.nil _⟩, hw.toFresh0⟩
theorem c_spaint (s : DScene) (v : Value) (W : World) (hv : RS eSurf W v s.ss) : SYieldsF Try.prog 15 #[vScene s v] (fun u H => OImg u (paint s) H) W := by
  by_cases hok : s.ok
  · have hp : paint s = painted s := by unfold paint; rw [if_pos hok]
    rw [hp]
    (first | apply SYields.mk | apply SYieldsF.mk | skip); refine s_enter Try.func15 rfl Try.ntmps15 rfl ?_
    repeat' (first | exact rfl | (apply kO; (first | exact ov_pure rfl | (apply kOCall; ((apply kCallF; (first | exact (ov_call rfl (fun w hw => c_ssceneOk _ _ w (hv.keep (hw.cells rfl)))))))) | (apply kOLoad; (exact aLdF)) | exact aNew)) | (refine kN ?_; (first | (refine kCall ?_; (first | (refine kWFn 67 ?_; (refine s_callF (fun u H => OImg u (painted s) H) rfl (fun w hw => c_l11Paint s _ w hok (hv.keep (hw.cells rfl))) rfl (fun u H hu => ?_); obtain ⟨d', rfl, hu⟩ := hu; have f1 := hu.form; obtain ⟨_, _, rfl⟩ := f1)) | apply s_step)) | (refine kStore ?_; (first | refine s_storeS _ rfl rfl gpA rfl rfl (by rfl) ?_ | refine s_storeS _ rfl rfl gpA rfl (ones_img oiA) (by rfl) ?_)) | refine s_boxS rfl rfl (fun b hb => ?_) | refine s_allocS rfl (fun b hb => ?_) | apply s_step)) | refine l_then ?_ | (refine kC ?_; (first | refine c_seq ?_ | refine c_regionN rfl ?_ | refine c_ret ?_ | (refine kCond ?_; (((refine c_cond_n rfl (fun h => ?_) (fun h => ?_)) <;> (try (first | contradiction | (exfalso; omega) | (exfalso; exact absurd hok (by assumption))))))) | refine c_skip ?_)) | (refine kE ?_; (first | refine e_then_r ?_ | refine e_then_n ?_)))
    all_goals (refine kE ?_; refine s_leaveSF rfl rfl rfl fwA (fun w hw => ?_))
    all_goals exact ⟨_, _, rfl, ⟨_, rfl, hu⟩, hw.toFresh (H := H) gpA⟩
  · have hp : paint s = DImg.zero := by unfold paint; rw [if_neg hok]
    rw [hp]
    (first | apply SYields.mk | apply SYieldsF.mk | skip); refine s_enter Try.func15 rfl Try.ntmps15 rfl ?_
    repeat' (first | exact rfl | (apply kO; (first | exact ov_pure rfl | (apply kOCall; ((apply kCallF; (first | exact (ov_call rfl (fun w hw => c_ssceneOk _ _ w (hv.keep (hw.cells rfl)))))))) | (apply kOLoad; (exact aLdF)) | exact aNew)) | (refine kN ?_; (first | (refine kStore ?_; (first | refine s_storeS _ rfl rfl gpA rfl rfl (by rfl) ?_ | refine s_storeS _ rfl rfl gpA rfl (ones_img oiA) (by rfl) ?_)) | refine s_boxS rfl rfl (fun b hb => ?_) | refine s_allocS rfl (fun b hb => ?_) | apply s_step)) | refine l_then ?_ | (refine kC ?_; (first | refine c_seq ?_ | refine c_regionN rfl ?_ | refine c_ret ?_ | (refine kCond ?_; (((refine c_cond_n rfl (fun h => ?_) (fun h => ?_)) <;> (try (first | contradiction | (exfalso; omega) | (exfalso; exact absurd (by assumption) hok)))))) | refine c_skip ?_)) | (refine kE ?_; (first | refine e_then_r ?_ | refine e_then_n ?_)))
    all_goals (refine kE ?_; refine s_leaveSF rfl rfl rfl fwA (fun w hw => ?_))
    all_goals exact ⟨_, [], rfl, ⟨_, rfl, OInts.nil _⟩, hw.toFresh0⟩
end Go.Proofs.Ytpcammhmgleonaa
namespace Go.Proofs.Ytpcammhmgleonaa
open Go Sx
attribute [local irreducible] Exit.then Exit.inBlock bodyPost OInts OElems DScene.ok tcells
set_option maxHeartbeats 4000000 in
theorem c_l10Edits (cb : Nat) (bs : Value) (l : List Int) (W : World) (hcd : CDraw cb bs l W) : SDraw Try.prog 55 #[.pointer (some ⟨cb, 0, none⟩)] cb bs l someEdits W := by
  refine ⟨fun ci ch hci hH hn => SYieldsG.mk (s_enterM Try.func55 rfl Try.ntmps55 rfl hH hn ?_)⟩
  repeat' (first | exact rfl | (apply kO; (first | exact ov_pure rfl | (apply kOBin; (first | exact aBin)))) | (refine kN ?_; (first | (refine kCall ?_; (first | (refine kWFn 113 ?_; (refine s_drawV _ rfl gpA (by omega) (fun w hw => c_l01Below _ cb bs l w (by first | exact keepC hcd rfl hw | exact freshC (by assumption) hw gpA) (by omega)) rfl (fun v ci ch hci hu => ?_); obtain ⟨x, rfl, hx⟩ := hu)) | (refine kWFn 116 ?_; (refine s_draw (l := l) _ rfl gpA (by omega) (fun w hw => c_l10Edit cb bs l w (by first | exact keepC hcd rfl hw | exact freshC (by assumption) hw gpA)) rfl (fun u ci ch F hci hu => ?_); obtain ⟨ed, hed, d', rfl, hu⟩ := hu; have f1 := hu.form; obtain ⟨_, _, rfl⟩ := f1)) | (refine kWApp ?_; (refine s_appendE _ _ _ (el := eEdit) (a := ed) rfl rfl hj3 gpA gpA (show eEdit.own _ _ _ from hu) gpA rfl rfl (eEdit_ones (OInts.one hu)) (by rw [scells_eq]; rfl) (by decide) (by omega) (by decide) rfl (fun v4 H4 hv4 => ?_))) | apply s_step)) | refine s_buildSlice0 rfl (fun b hb => ?_) | refine s_buildSlice rfl rfl rfl rfl rfl (fun b hb => ?_) | apply s_step)) | refine l_then ?_ | (refine kC ?_; (first | (refine kLoop 3 ?_; refine c_loopV (ι := Nat × List DEdit × Value × SPiece × Int × Int) (fun j => (j.1 ≤ 4 ∧ j.2.1.length + j.1 ≤ 4) ∧ (∀ e ∈ j.2.1, e.buf.data.length ≤ 256) ∧ OElems eEdit 67 j.2.2.1 j.2.1 j.2.2.2.1 ∧ 0 ≤ j.2.2.2.2.1 ∧ j.2.2.2.2.1 ≤ l.length) (fun j => [(3, j.2.2.1), (4, .int .i64 (j.1 : Int))]) (fun j => [j.2.2.2.1, curP bs j.2.2.2.2.1 j.2.2.2.2.2 cb]) (fun j => j.1) (x.toNat, [], _, _, _, _) ⟨⟨by dsimp only; omega, by dsimp only; simp; omega⟩, (fun e he => (by cases he)), OElems.bare _, hci⟩ rfl (fun _ => rfl) ⟨rfl, slook_to rfl (vint_to (by dsimp only; omega)), trivial⟩ (fun w hw => hw) (fun j hj => ?_); obtain ⟨⟨hj1, hj5⟩, hj2, hj3, hj4⟩ := hj) | refine c_seq ?_ | refine c_regionN rfl ?_ | refine c_ret ?_ | (refine kCond ?_; (((refine c_cond_d rfl (fun h => ?_) (fun h => ?_)) <;> (try (first | contradiction | (exfalso; omega)))))) | refine c_block ?_ | refine c_skip ?_ | refine c_exit ?_)) | (refine kE ?_; (first | refine e_then_n ?_ | refine e_then_x ?_ | refine e_block_n ?_ | refine e_block_x ?_)) | refine l_ends ?_)
  · refine e_round (j.1 - 1, j.2.1 ++ [ed], _, H4, ci, ch) ⟨⟨by dsimp only; omega, by dsimp only; rw [List.length_append]; simp; omega⟩, fun e he => ?_, hv4, hci⟩ ⟨rfl, slook_to rfl (vint_to (by dsimp only; omega)), (by repeat' first | exact trivial | refine ⟨rfl, ?_⟩)⟩ (fun w hw => hw.picks (by (repeat' first | exact Picks.nil | exact gp_hd | apply gp_tl | apply Picks.cons); done) (by rfl)) (by dsimp only; omega)
    rcases List.mem_append.1 he with he | he
    · exact hj2 e he
    · rw [List.mem_singleton] at he; subst he; exact hed
  · exact s_leave1 rfl rfl (fun w hw => ⟨_, curP bs j.2.2.2.2.1 j.2.2.2.2.2 cb, j.2.2.2.1, rfl, ⟨⟨j.2.2.2.2.1, j.2.2.2.2.2, rfl, hj4⟩, ⟨j.2.1, by have := short_edits hj2; have := Nat.mul_le_mul_right 257 (show j.2.1.length ≤ 4 by omega); omega, hj3⟩⟩, hw.picks (by (repeat' first | exact Picks.nil | exact gp_hd | apply gp_tl | apply Picks.cons); done) (by rfl)⟩)
def someSE (u : Value) (H : SPiece) : Prop := ∃ (s : DScene) (es : List DEdit) (vs ve : Value) (Hs He : SPiece), u = .tuple #[vScene s vs, ve] ∧ s.ok ∧ editsLen es ≤ 5000 ∧ OElems eSurf 62 vs s.ss Hs ∧ OElems eEdit 67 ve es He ∧ H = [Hs, He].flatten
theorem w_two {P : Program} {n : Nat} {lo : SMut} {s : World} {ops : Array Oper} {Q : Exit → Act → World → Prop} {E : SEnv} {L : SHeap} {l : List Oper} {A B : SPiece} (k : WPL P n lo s ops Q l E (A :: B :: L)) : WPL P n lo s ops Q l E ([A, B].flatten :: L) := w_perm (by simp) k
theorem c_drawScene (v : Value) (l : List Int) (W : World) (hv : RBytes W v l) (hl : l.length ≤ 1048576) : SYieldsF Try.prog 11 #[v] someSE W := by
  have hll := hv.1.len
  (first | apply SYields.mk | apply SYieldsF.mk | skip); refine s_enter Try.func11 rfl Try.ntmps11 rfl ?_
  repeat' (first | exact rfl | (apply kO; (first | exact ov_pure rfl | (apply kOLoad; (exact aLdF)))) | (refine kN ?_; (first | (refine kCall ?_; (first | (refine kWFn 53 ?_; (refine s_callF (fun u H => ∃ cb ch, u = .pointer (some ⟨cb, 0, none⟩) ∧ H = curP v 0 ch cb) rfl (fun w hw => c_l01New v l w (hv.keep (hw.cells rfl)) hl) rfl (fun u H hu => ?_); obtain ⟨cb, ch, rfl, rfl⟩ := hu)) | (refine kWFn 54 ?_; (refine s_draw (l := l) _ rfl gpA (by omega) (fun w hw => c_l10Scene cb v l w (freshC hv hw gpA)) rfl (fun u ci ch F1 hci hu => ?_); obtain ⟨sc, hsc, d', rfl, hus⟩ := hu; have f1 := hus.form; obtain ⟨_, _, rfl⟩ := f1)) | (refine kWFn 55 ?_; (refine s_draw (l := l) _ rfl gpA (by omega) (fun w hw => c_l10Edits cb v l w (freshC hv hw gpA)) rfl (fun u ci ch F2 hci hu => ?_); obtain ⟨es, hes, hue⟩ := hu; have f1 := hue.form; obtain ⟨_, _, rfl⟩ := f1)) | apply s_step)) | (refine kStore ?_; (first | (refine s_storeS _ rfl rfl gpA rfl (ones_cons rfl (ones_cons rfl (ones_cons rfl (ones_cons (OElems.one (by assumption)) rfl)))) (by rfl) ?_) | refine s_storeS _ rfl rfl gpA rfl rfl (by rfl) ?_ | refine s_storeS _ rfl rfl gpA rfl (ones_img oiA) (by rfl) ?_)) | refine s_allocS rfl (fun b hb => ?_) | apply s_step)) | (refine kS ?_; (first | refine h_exec rfl ?_ | refine h_nil ?_ | apply h_take)) | (refine kBack ?_; (refine h_backN rfl subA ?_)) | refine l_then ?_ | (refine kC ?_; (first | (refine kReg 3 ?_; refine c_regionSubN (SPlan.take 0 (SPlan.take 1 (SPlan.run 2 (SPlan.run 3 (SPlan.take 4 SPlan.done))))) none [true, true, false, false] rfl rfl rfl (by decide +kernel) ?_) | refine c_seq ?_ | refine c_regionN rfl ?_ | refine c_ret ?_)) | (refine kE ?_; (refine e_then_n ?_)))
  all_goals exact s_leaveN rfl rfl (SRes.cellG rfl rfl fwA (.tmp rfl .nil)) (fun w hw => ⟨_, _, rfl, ⟨sc, es, _, _, F1, F2, rfl, hsc, hes, hus, hue, rfl⟩, (hw.picks (L' := [F1, F2]) (by (repeat' first | exact Picks.nil | exact gp_hd | apply gp_tl | apply Picks.cons); done) (by rfl)).toFreshL (List.Sublist.refl _)⟩) .ret (.inl rfl)
theorem c_editsSome (s : DScene) (l : List DEdit) (v vl : Value) (W : World) (hs : s.ok) (hv : RS eSurf W v s.ss) (hvl : RS eEdit W vl l) (hel : editsLen l ≤ 5000) :
    SYieldsF Try.prog 12 #[vScene s v, vl] (fun u H => ∃ (t : DScene) (n : Int) (vt : Value), u = .tuple #[vScene t vt, .int .i64 n] ∧ t = doEdits s l ∧ t.ok ∧ sameSize s t ∧ OElems eSurf 62 vt t.ss H) W :=
  (c_sdoEdits s l v vl W hv hvl (scene_len hs) (by omega)).imp fun u H h => by
    obtain ⟨vt, rfl, h⟩ := h
    have hz := doEdits_size s l
    exact ⟨_, _, _, rfl, rfl, doEdits_ok l hs, ⟨hz.1.symm, hz.2.symm⟩, h⟩
theorem paint_ok {s : DScene} (h : s.ok) : paint s = painted s := by unfold paint; rw [if_pos h]
theorem c_spaintOk (s : DScene) (v : Value) (W : World) (hs : s.ok) (hv : RS eSurf W v s.ss) : SYieldsF Try.prog 15 #[vScene s v] (fun u H => OImg u (painted s) H) W := by
  have h9 := c_spaint s v W hv
  rw [paint_ok hs] at h9
  exact h9
theorem c_ipaintOk (s : DScene) (v : Value) (W : World) (hs : s.ok) (hv : RS eSurf W v s.ss) : SYieldsF Try.prog 39 #[vScene s v] (fun u H => OImg u (painted s) H) W := by
  have h9 := c_ipaint s v W hv
  rw [paint_ok hs] at h9
  exact h9
end Go.Proofs.Ytpcammhmgleonaa
namespace Sx
open Go
def intFields (P : Program) : Nat → List Field → Bool
  | _, [] => true
  | o, f :: fs => (f.name != "_") && (f.offset == o) && (match P.underlying f.type with | some (.int _) => true | _ => false) && intFields P (o + 1) fs
def eqIntsB (P : Program) (t : TypeId) (k : Nat) : Bool :=
  (match P.underlying t with | some (.struct fs) => fs.size == k && intFields P 0 fs.toList | _ => false) && !P.stoodInHeld t && !P.eqGuardType P.depth t
class SEqI (P : Program) (t : TypeId) (k : Nat) : Prop where
  h : eqIntsB P t k = true
theorem part_int {P : Program} {t : TypeId} {kk : IntKind} (h : P.underlying t = some (.int kk)) {l : List Value} {o : Nat} {v : Value} (hv : l[o]? = some v) (w : World) : (part t l.toArray o).run P w = .ok v w := by
  simp [part, isAgg, run_underlying h, hv]
theorem eqFields_ints {P : Program} (d : Nat) (w : World) : ∀ (fs : List Field) (o : Nat) (p q a c : List Int), p.length = o → q.length = o → fs.length = a.length → a.length = c.length → intFields P o fs = true →
    (Op.eqFields (d + 1) (ivals (p ++ a)).toArray (ivals (q ++ c)).toArray fs).run P w = .ok (decide (a = c)) w
  | [], o, p, q, a, c, _, _, hl, hl2, _ => by
    have h1 : a = [] := List.eq_nil_of_length_eq_zero hl.symm
    subst h1
    have h2 : c = [] := List.eq_nil_of_length_eq_zero hl2.symm
    subst h2
    simp [Op.eqFields]
  | f :: fs, o, p, q, [], c, _, _, hl, _, _ => by simp at hl
  | f :: fs, o, p, q, x :: a, [], _, _, _, hl2, _ => by simp at hl2
  | f :: fs, o, p, q, x :: a, y :: c, hp, hq, hl, hl2, hf => by
    simp only [intFields, Bool.and_eq_true, bne_iff_ne, beq_iff_eq] at hf
    obtain ⟨⟨⟨h1, h2⟩, h3⟩, h4⟩ := hf
    obtain ⟨kk, hk⟩ : ∃ kk, P.underlying f.type = some (.int kk) := by
      cases hu : P.underlying f.type with
      | none => simp [hu] at h3
      | some td => cases td <;> simp [hu] at h3; exact ⟨_, rfl⟩
    have g1 : (ivals (p ++ x :: a))[f.offset]? = some (.int .i64 x) := by rw [h2, ← hp]; simp [ivals]
    have g2 : (ivals (q ++ y :: c))[f.offset]? = some (.int .i64 y) := by rw [h2, ← hq]; simp [ivals]
    have ih := eqFields_ints d w fs (o + 1) (p ++ [x]) (q ++ [y]) a c (by simp [hp]) (by simp [hq]) (by simpa using hl) (by simpa using hl2) h4
    rw [List.append_assoc, List.append_assoc] at ih
    simp only [List.singleton_append] at ih
    unfold Op.eqFields
    rw [if_pos h1]
    simp only [Sem.run_bind, part_int hk g1, part_int hk g2, Result.andThen_ok, run_equalIn_int w d f.type .i64 kk x y hk]
    by_cases e : x = y
    · subst e
      simp only [beq_self_eq_true, Bool.not_true, Bool.false_eq_true, if_false, ih, List.cons.injEq, true_and]
    · simp [e]
section
variable {P : Program} {n : Nat} {lo : SMut} {s : World} {E : SEnv} {L : SHeap} {d : Option Tmp} {ty : TypeId} {pos : String} {after : Array Edge} {g : Option (Nat × Bool)} {x y : Operand} {xt yt : TypeId}
theorem equal_ints {P : Program} {t : TypeId} {k : Nat} [hk : SEqI P t k] (d : Nat) {a c : List Int} (ha : a.length = k) (hc : c.length = k) (w : World) : (Op.equalIn (d + 2) t (.agg (ivals a).toArray) (.agg (ivals c).toArray)).run P w = .ok (decide (a = c)) w := by
  have h := hk.h
  unfold eqIntsB at h
  simp only [Bool.and_eq_true, Bool.not_eq_true'] at h
  obtain ⟨⟨h1, h2⟩, h3⟩ := h
  have h4 : P.underlying t = some (.struct (P.fieldsOf t)) ∧ (P.fieldsOf t).size = k ∧ intFields P 0 (P.fieldsOf t).toList = true := by
    unfold Program.fieldsOf
    cases hu : P.underlying t with
    | none => simp [hu] at h1
    | some td => cases td <;> simp [hu] at h1 ⊢; exact h1
  rw [run_equalIn_struct w (d + 1) t _ _ h4.1 h2]
  exact eqFields_ints d w _ 0 [] [] a c rfl rfl (by rw [Array.length_toList, h4.2.1, ha]) (by rw [ha, hc]) h4.2.2
theorem ov_neqI {k : Nat} [hk : SEqI P xt k] {a c : List Int} (hx : sval E x = some (.agg (ivals a).toArray)) (hy : sval E y = some (.agg (ivals c).toArray)) (ha : a.length = k) (hc : c.length = k) : SOpV P n lo s E L ⟨d, .binOp .neq xt x y yt, ty, pos, after, g⟩ (.bool (!decide (a = c))) :=
  SOpV.of_run fun q hq w hw => by
    have h := hk.h
    unfold eqIntsB at h
    simp only [Bool.and_eq_true, Bool.not_eq_true'] at h
    simp only [execOp, hq.sval hx, hq.sval hy, Sem.run_bind, run_eqGuard_agg w .neq xt x y _ _ h.2, Result.andThen_ok, run_neq_struct, equal_ints 9998 ha hc w]
    rfl
end
end Sx
namespace Go.Proofs.Ytpcammhmgleonaa
open Go Sx
instance : SEqI Try.prog 73 4 := ⟨by kernel_rfl⟩
def rectL (r : DRect) : List Int := [r.X, r.Y, r.W, r.H]
theorem rectL_inj {r q : DRect} : rectL r = rectL q ↔ r = q := by
  constructor
  · intro h; cases r; cases q; simp [rectL] at h; simp [h]
  · intro h; rw [h]
theorem rectL_dec (r q : DRect) : decide (rectL r = rectL q) = decide (r = q) := decide_eq_decide.2 rectL_inj
section
variable {n : Nat} {lo : SMut} {s : World} {E : SEnv} {L : SHeap} {d : Option Tmp} {ty : TypeId} {pos : String} {after : Array Edge} {g : Option (Nat × Bool)} {x y : Operand} {yt : TypeId}
theorem ov_neRect {r q : DRect} (hx : sval E x = some (vRect r)) (hy : sval E y = some (vRect q)) : SOpV Try.prog n lo s E L ⟨d, .binOp .neq 73 x y yt, ty, pos, after, g⟩ (.bool (!decide (r = q))) := by
  rw [← rectL_dec]; exact ov_neqI (k := 4) (a := rectL r) (c := rectL q) hx hy rfl rfl
end
end Go.Proofs.Ytpcammhmgleonaa
namespace Go.Proofs.Ytpcammhmgleonaa
open Go Sx
attribute [local irreducible] Exit.then Exit.inBlock bodyPost
def markRTo (l : List DRect) (k : Int) (j : Nat) : List DRect := iotaR k j ++ l.drop j
end Go.Proofs.Ytpcammhmgleonaa
namespace Go.Proofs.Ytpcammhmgleonaa
open Go Sx
attribute [local irreducible] Exit.then Exit.inBlock bodyPost
abbrev mval (m : DMode) : Value := .agg #[.int .i64 m.Clock, .int .i64 m.W, .int .i64 m.HFront, .int .i64 m.HSync, .int .i64 m.HBack, .int .i64 m.H, .int .i64 m.VFront, .int .i64 m.VSync, .int .i64 m.VBack]
end Go.Proofs.Ytpcammhmgleonaa
namespace Go.Proofs.Ytpcammhmgleonaa
open Go Sx
attribute [local irreducible] Exit.then Exit.inBlock bodyPost
theorem c_big (v : Value) (l : List Int) (w : World) (hv : RBytes w v l) : SYields Try.prog 10 #[v] (.bool (decide (1048576 < l.length))) w := by
  have hl := hv.1.len
  (first | apply SYields.mk | apply SYieldsF.mk | skip); refine s_enter Try.func10 rfl Try.ntmps10 rfl ?_
  repeat' (first | exact rfl | (apply kO; (first | exact ov_pure rfl | (apply kOCall; (first | (apply kCallB; (exact (ov_lenR (fun w hw => hv.1.keep (hw.cells rfl)) rfl))))))) | (refine kN ?_; (apply s_step)) | refine l_then ?_ | (refine kC ?_; (first | refine c_seq ?_ | refine c_regionN rfl ?_ | refine c_ret ?_)))
  all_goals refine s_leave1 rfl rfl (fun w hw => ⟨?_, hw.below⟩)
  all_goals first | rfl | exact ret_true (by omega) | exact ret_false (by omega) | exact ret_dec (by omega)
theorem c_at (v : Value) (l : List Int) (i : Nat) (w : World) (hv : RBytes w v l) (hi : i ≤ 1000000000) : SYields Try.prog 34 #[v, .int .i64 (i : Int)] (.int .i64 (atB l i)) w := by
  have hl := hv.1.len
  have hm : 0 < l.length → (i * 5 + 1) % l.length < l.length := fun h => Nat.mod_lt _ h
  have hcast : ((i : Int) * 5 + 1) % (l.length : Int) = (((i * 5 + 1) % l.length : Nat) : Int) := by push_cast; rfl
  have hbd := fun h => hv.2 _ (hm h)
  (first | apply SYields.mk | apply SYieldsF.mk | skip); refine s_enter Try.func34 rfl Try.ntmps34 rfl ?_
  repeat' (first | exact rfl | (apply kO; (first | exact ov_pure rfl | (apply kOBin; (first | exact aBin)) | (apply kOCall; (first | (apply kCallB; (exact (ov_lenR (fun w hw => hv.1.keep (hw.cells rfl)) rfl))))) | (apply kOLoad; (exact (ov_ldR0 (fun w hw => hv.1.keep (hw.cells rfl)) rfl rfl (by omega) rfl))) | (apply kOIdx; (exact (ov_idxR (fun w hw => hv.1.keep (hw.cells rfl)) rfl rfl (by omega)))) | exact (ov_conv rfl (by rw [hcast, Int.toNat_natCast]; have := hbd (by omega); omega)))) | (refine kN ?_; (apply s_step)) | refine l_then ?_ | (refine kC ?_; (first | refine c_seq ?_ | refine c_regionN rfl ?_ | refine c_ret ?_ | (refine kCond ?_; (((refine c_cond_d rfl (fun h => ?_) (fun h => ?_)) <;> (try (first | contradiction | (exfalso; omega)))))) | refine c_skip ?_)) | (refine kE ?_; (first | refine e_then_r ?_ | refine e_then_n ?_)))
  all_goals refine s_leave1 rfl rfl (fun w hw => ⟨?_, hw.below⟩)
  · refine ret_int ?_; unfold atB; rw [if_pos (by omega)]
  · refine ret_int ?_; unfold atB; rw [if_neg (by omega), hcast, Int.toNat_natCast]
theorem c_atI (v : Value) (l : List Int) (i : Int) (w : World) (hv : RBytes w v l) (hi : 0 ≤ i ∧ i ≤ 1000000000) : SYields Try.prog 34 #[v, .int .i64 i] (.int .i64 (atB l i.toNat)) w := by
  have := c_at v l i.toNat w hv (by omega)
  rwa [Int.toNat_of_nonneg hi.1] at this
theorem atB_bd {l : List Int} (hb : ∀ i, i < l.length → 0 ≤ l.getD i 0 ∧ l.getD i 0 ≤ 255) (i : Nat) : 0 ≤ atB l i ∧ atB l i ≤ 255 := by
  unfold atB
  split
  · omega
  · exact hb _ (Nat.mod_lt _ (by omega))
end Go.Proofs.Ytpcammhmgleonaa
namespace Sx

def wfill (i : DImg) (lay : Int) : Nat → List Int
  | 0 => List.replicate (wordCount i.W i.H lay).toNat 0
  | k + 1 => (wfill i lay k).set (wplace i.W lay ((k : Int) % i.W) ((k : Int) / i.W)).toNat (i.data.getD k 0)
def rl (f : Nat → Bool) : Nat → Nat → Nat
  | 0, _ => 0
  | n + 1, x => if f x = true then rl f n (x + 1) + 1 else 0
def goesOn (i : DImg) (k e : Nat) : Bool := decide ((e : Int) % i.W ≠ 0 ∧ i.data.getD e 0 = i.data.getD k 0)
def runAt (i : DImg) (k : Nat) : Nat := 1 + rl (goesOn i k) 17 (k + 1)
def runsF (i : DImg) : Nat → Nat → List Int
  | 0, _ => []
  | f + 1, k => if k < i.data.length then [(runAt i k : Int), i.data.getD k 0] ++ runsF i f (k + runAt i k) else []
def runs (i : DImg) (k : Nat) : List Int := runsF i (i.data.length - k) k
def storeImage (i : DImg) (lay : Int) : List Int × Bool := if i.ok ∧ (0 ≤ lay ∧ lay ≤ 2) then (if lay = 2 then runs i 0 else wfill i lay i.data.length, true) else ([], false)
def expandF (most : Int) : List Int → List Int → Option (List Int)
  | out, n :: p :: rest => if 1 ≤ n ∧ n ≤ most - out.length then expandF most (out ++ List.replicate n.toNat p) rest else none
  | out, _ => some out
def expand (most : Int) (words : List Int) : List Int := (expandF most [] words).getD []
def loadData (words : List Int) (w h lay : Int) : List Int :=
  if lay = 2 then expand (w * h) words else if wordCount w h lay = words.length then mapTo (fun x y => words.getD (wplace w lay x y).toNat 0) w (w * h).toNat else []
def loadOk (words : List Int) (w h lay : Int) : Prop := ((1 ≤ w ∧ w ≤ 16) ∧ (1 ≤ h ∧ h ≤ 16) ∧ (0 ≤ lay ∧ lay ≤ 2)) ∧ (⟨w, h, loadData words w h lay⟩ : DImg).ok ∧ (storeImage ⟨w, h, loadData words w h lay⟩ lay).1 = words
instance (words : List Int) (w h lay : Int) : Decidable (loadOk words w h lay) := by unfold loadOk; infer_instance
def loadImage (words : List Int) (w h lay : Int) : DImg × Bool := if loadOk words w h lay then (⟨w, h, loadData words w h lay⟩, true) else (DImg.zero, false)
end Sx
