/-
  Texts that the law stands on, part 5: K20, K21, K9, KN, KO, KV, LB, L8, L9, L14, M10, M12, M16, M18, M19, LC, L15, L17, L10, L11, L12.
-/
import Derived.Test.YtpcammhmgleonaaSixB4
set_option linter.unusedVariables false
namespace Go.Proofs.Ytpcammhmgleonaa
open Go Sx
attribute [local irreducible] Exit.then Exit.inBlock bodyPost
end Go.Proofs.Ytpcammhmgleonaa
namespace Sx
end Sx
namespace Go.Proofs.Ytpcammhmgleonaa
open Go Sx
attribute [local irreducible] Exit.then Exit.inBlock bodyPost
theorem c_slicesEqual (u v : Value) (k l : List Int) (w : World) (hu : RInts w u k) (hv : RInts w v l) : SYields Try.prog 154 #[u, v] (.bool (decide (k = l))) w := by
  have hk := hu.len
  have hl := hv.len
  (first | apply SYields.mk | apply SYieldsF.mk | skip); refine s_enter Try.func154 rfl Try.ntmps154 rfl ?_
  repeat' (first | exact rfl | (apply kO; (first | exact ov_pure rfl | (apply kOBin; (first | exact aBin)) | (apply kOCall; (first | (apply kCallB; (exact aLenR)))) | (apply kOLoad; (exact aLdR)) | (apply kOIdx; (first | exact aIdx)))) | (refine kN ?_; (apply s_step)) | refine l_then ?_ | (refine kC ?_; (first | (refine c_loopV (ι := Nat) (fun j => j ≤ k.length ∧ k.take j = l.take j) (fun j => [(13, .int .i64 (j : Int))]) (fun _ => []) (fun j => k.length - j) 0 ⟨by omega, rfl⟩ rfl (fun _ => rfl) ⟨rfl, trivial⟩ (fun w hw => hw) (fun j hj => ?_)) | refine c_seq ?_ | refine c_regionN rfl ?_ | refine c_ret ?_ | (refine kCond ?_; (((refine c_cond_d rfl (fun h => ?_) (fun h => ?_)) <;> (try (first | contradiction | (exfalso; omega)))))) | refine c_block ?_ | refine c_skip ?_ | refine c_exit ?_ | refine c_regionQN rfl rfl (by decide +kernel) ?_)) | apply s_stepQ | refine lQ_then ?_ | (refine kE ?_; (first | refine e_then_r ?_ | refine e_block_r ?_ | refine e_then_n ?_ | refine e_then_x ?_ | refine e_block_n ?_ | refine e_block_x ?_)) | refine l_ends ?_)
  all_goals try simp only [Int.toNat_natCast] at *
  · exact s_leave1 rfl rfl (fun w hw => ⟨ret_false (ne_of_len (by omega)), hw.below⟩)
  · exact s_leave1 rfl rfl (fun w hw => ⟨ret_false (ne_of_getD (by assumption)), hw.below⟩)
  · exact e_round (j + 1) ⟨by omega, take_next hj.2 (by omega) (by omega) (by omega)⟩ ⟨rfl, (by repeat' first | exact trivial | refine ⟨rfl, ?_⟩)⟩ (fun w hw => hw) (by omega)
  · exact s_leave1 rfl rfl (fun w hw => ⟨ret_true (eq_of_take hj.2 (by omega) (by omega)), hw.below⟩)
theorem c_l05Ints (u v : Value) (k l : List Int) (w : World) (hu : RInts w u k) (hv : RInts w v l) : SYields Try.prog 163 #[u, v] (.bool (decide (k = l))) w := by
  have hk := hu.len
  have hl := hv.len
  (first | apply SYields.mk | apply SYieldsF.mk | skip); refine s_enter Try.func163 rfl Try.ntmps163 rfl ?_
  repeat' (first | exact rfl | (apply kO; (first | exact ov_pure rfl | (apply kOBin; (first | exact aBin)) | (apply kOCall; (first | (apply kCallB; (exact aLenR)))) | (apply kOLoad; (exact aLdR)) | (apply kOIdx; (first | exact aIdx)))) | (refine kN ?_; (apply s_step)) | refine l_then ?_ | (refine kC ?_; (first | (refine c_loopV (ι := Nat) (fun j => j ≤ k.length ∧ k.take j = l.take j) (fun j => [(5, .int .i64 (j : Int))]) (fun _ => []) (fun j => k.length - j) 0 ⟨by omega, rfl⟩ rfl (fun _ => rfl) ⟨rfl, trivial⟩ (fun w hw => hw) (fun j hj => ?_)) | refine c_seq ?_ | refine c_regionN rfl ?_ | refine c_ret ?_ | (refine kCond ?_; (((refine c_cond_d rfl (fun h => ?_) (fun h => ?_)) <;> (try (first | contradiction | (exfalso; omega)))))) | refine c_block ?_ | refine c_skip ?_ | refine c_exit ?_ | refine c_regionQN rfl rfl (by decide +kernel) ?_)) | apply s_stepQ | refine lQ_then ?_ | (refine kE ?_; (first | refine e_then_r ?_ | refine e_block_r ?_ | refine e_then_n ?_ | refine e_then_x ?_ | refine e_block_n ?_ | refine e_block_x ?_)) | refine l_ends ?_)
  all_goals try simp only [Int.toNat_natCast] at *
  · exact s_leave1 rfl rfl (fun w hw => ⟨ret_false (ne_of_len (by omega)), hw.below⟩)
  · exact s_leave1 rfl rfl (fun w hw => ⟨ret_false (ne_of_getD (by assumption)), hw.below⟩)
  · exact e_round (j + 1) ⟨by omega, take_next hj.2 (by omega) (by omega) (by omega)⟩ ⟨rfl, (by repeat' first | exact trivial | refine ⟨rfl, ?_⟩)⟩ (fun w hw => hw) (by omega)
  · exact s_leave1 rfl rfl (fun w hw => ⟨ret_true (eq_of_take hj.2 (by omega) (by omega)), hw.below⟩)
theorem c_isameImage (a c : DImg) (d e : Value) (w : World) (hd : RInts w d a.data) (he : RInts w e c.data) : SYields Try.prog 119 #[vImg a d, vImg c e] (.bool (decide (a = c))) w := by
  (first | apply SYields.mk | apply SYieldsF.mk | skip); refine s_enter Try.func119 rfl Try.ntmps119 rfl ?_
  repeat' (first | exact rfl | (apply kO; (first | exact ov_pure rfl | (apply kOCall; ((apply kCallF; (first | exact (ov_call rfl (fun w hw => c_slicesEqual _ _ _ _ w (riA hw) (riA hw))))))) | (apply kOLoad; (exact aLdF)) | exact ov_fieldAddr rfl)) | (refine kN ?_; (first | refine s_boxS rfl rfl (fun b hb => ?_) | apply s_step)) | (refine kG ?_; (first | refine s_gyes rfl rfl rfl ?_ | refine s_gno rfl rfl rfl rfl rfl ?_ | ((refine s_split_d rfl rfl (fun h => ?_) (fun h => ?_)) <;> (try (first | contradiction | (exfalso; omega)))))) | refine l_then ?_ | (refine kC ?_; (first | refine c_seq ?_ | refine c_regionN rfl ?_ | refine c_ret ?_)))
  all_goals refine s_leave1 rfl rfl (fun w hw => ⟨?_, hw.below⟩)
  all_goals first | exact ret_false (fun e => by subst e; contradiction) | exact ret_dec ⟨fun hh => DImg.eq (by assumption) (by assumption) hh, fun e => by rw [e]⟩
theorem c_ssameImage (a c : DImg) (d e : Value) (w : World) (hd : RInts w d a.data) (he : RInts w e c.data) : SYields Try.prog 135 #[vImg a d, vImg c e] (.bool (decide (a = c))) w := by
  (first | apply SYields.mk | apply SYieldsF.mk | skip); refine s_enter Try.func135 rfl Try.ntmps135 rfl ?_
  repeat' (first | exact rfl | (apply kO; (first | exact ov_pure rfl | (apply kOCall; ((apply kCallF; (first | exact (ov_call rfl (fun w hw => c_l05Ints _ _ _ _ w (riA hw) (riA hw))))))) | (apply kOLoad; (exact aLdF)) | exact ov_fieldAddr rfl)) | (refine kN ?_; (first | refine s_boxS rfl rfl (fun b hb => ?_) | apply s_step)) | (refine kG ?_; (first | refine s_gyes rfl rfl rfl ?_ | refine s_gno rfl rfl rfl rfl rfl ?_ | ((refine s_split_d rfl rfl (fun h => ?_) (fun h => ?_)) <;> (try (first | contradiction | (exfalso; omega)))))) | refine l_then ?_ | (refine kC ?_; (first | refine c_seq ?_ | refine c_regionN rfl ?_ | refine c_ret ?_)))
  all_goals refine s_leave1 rfl rfl (fun w hw => ⟨?_, hw.below⟩)
  all_goals first | exact ret_false (fun e => by subst e; contradiction) | exact ret_dec ⟨fun hh => DImg.eq (by assumption) (by assumption) hh, fun e => by rw [e]⟩
theorem c_isameSurface (a c : DSurf) (d e : Value) (w : World) (hd : RInts w d a.buf.data) (he : RInts w e c.buf.data) : SYields Try.prog 62 #[vSurf a d, vSurf c e] (.bool (decide (a = c))) w := by
  (first | apply SYields.mk | apply SYieldsF.mk | skip); refine s_enter Try.func62 rfl Try.ntmps62 rfl ?_
  repeat' (first | exact rfl | (apply kO; (first | exact ov_pure rfl | (apply kOBin; (first | exact aBin)) | (apply kOCall; ((apply kCallF; (first | exact (ov_call rfl (fun w hw => c_isameImage a.buf c.buf _ _ w (riA hw) (riA hw))))))) | (apply kOLoad; (exact aLdF)) | exact ov_fieldAddr rfl)) | (refine kN ?_; (first | refine s_boxS rfl rfl (fun b hb => ?_) | apply s_step)) | (refine kG ?_; (first | refine s_gyes rfl rfl rfl ?_ | refine s_gno rfl rfl rfl rfl rfl ?_ | ((refine s_split_d rfl rfl (fun h => ?_) (fun h => ?_)) <;> (try (first | contradiction | (exfalso; omega)))))) | refine l_then ?_ | (refine kC ?_; (first | refine c_seq ?_ | refine c_regionN rfl ?_ | refine c_ret ?_)))
  all_goals refine s_leave1 rfl rfl (fun w hw => ⟨?_, hw.below⟩)
  all_goals first | exact ret_false (fun e => by subst e; contradiction) | exact ret_dec ⟨fun hh => DSurf.eq (by assumption) (by assumption) (by assumption) (by assumption) (by assumption) (by assumption) (by assumption) (by simpa using hh) (by assumption), fun e => by rw [e]⟩
theorem c_ssameSurface (a c : DSurf) (d e : Value) (w : World) (hd : RInts w d a.buf.data) (he : RInts w e c.buf.data) : SYields Try.prog 88 #[vSurf a d, vSurf c e] (.bool (decide (a = c))) w := by
  (first | apply SYields.mk | apply SYieldsF.mk | skip); refine s_enter Try.func88 rfl Try.ntmps88 rfl ?_
  repeat' (first | exact rfl | (apply kO; (first | exact ov_pure rfl | (apply kOBin; (first | exact aBin)) | (apply kOCall; ((apply kCallF; (first | exact (ov_call rfl (fun w hw => c_ssameImage a.buf c.buf _ _ w (riA hw) (riA hw))))))) | (apply kOLoad; (exact aLdF)) | exact ov_fieldAddr rfl)) | (refine kN ?_; (first | refine s_boxS rfl rfl (fun b hb => ?_) | apply s_step)) | (refine kG ?_; (first | refine s_gyes rfl rfl rfl ?_ | refine s_gno rfl rfl rfl rfl rfl ?_ | ((refine s_split_d rfl rfl (fun h => ?_) (fun h => ?_)) <;> (try (first | contradiction | (exfalso; omega)))))) | refine l_then ?_ | (refine kC ?_; (first | refine c_seq ?_ | refine c_regionN rfl ?_ | refine c_ret ?_)))
  all_goals refine s_leave1 rfl rfl (fun w hw => ⟨?_, hw.below⟩)
  all_goals first | exact ret_false (fun e => by subst e; first | contradiction | (simp at *; done)) | exact ret_dec ⟨fun hh => DSurf.eq (by assumption) (by assumption) (by assumption) (by assumption) (by assumption) (by assumption) (by assumption) (by simp_all) hh, fun e => by rw [e]⟩
end Go.Proofs.Ytpcammhmgleonaa
namespace Go.Proofs.Ytpcammhmgleonaa
open Go Sx
attribute [local irreducible] Exit.then Exit.inBlock bodyPost
section
variable {P : Program} {n : Nat} {lo : SMut} {s : World} {ops : Array Oper} {Q : Exit → Act → World → Prop} {E : SEnv} {L : SHeap} {d : Nat} {ty : TypeId} {pos : String} {after : Array Edge} {rest : List Oper}
end
theorem rints_nil (w : World) : RInts w (.slice none 0 0) [] := ⟨⟨none, 0, rfl, fun h => absurd h (by decide)⟩, by decide, fun i hi => absurd hi (by simp), fun i hi => absurd hi (by simp), Nat.le_refl 0⟩
def loaded (words : List Int) (w h lay : Int) (v : Value) (H : SPiece) : Prop := ∃ u, v = .tuple #[u, .bool (loadImage words w h lay).2] ∧ OImg u (loadImage words w h lay).1 H
end Go.Proofs.Ytpcammhmgleonaa
namespace Go.Proofs.Ytpcammhmgleonaa
open Go Sx
attribute [local irreducible] Exit.then Exit.inBlock bodyPost
end Go.Proofs.Ytpcammhmgleonaa
namespace Go.Proofs.Ytpcammhmgleonaa
open Go Sx
attribute [local irreducible] Exit.then Exit.inBlock bodyPost
theorem c_sameInts (u v : Value) (k l : List Int) (w : World) (hu : RInts w u k) (hv : RInts w v l) : SYields Try.prog 101 #[u, v] (.bool (decide (k = l))) w := by
  have hk := hu.len
  have hl := hv.len
  (first | apply SYields.mk | apply SYieldsF.mk | skip); refine s_enter Try.func101 rfl Try.ntmps101 rfl ?_
  repeat' (first | exact rfl | (apply kO; (first | exact ov_pure rfl | (apply kOBin; (first | exact aBin)) | (apply kOCall; (first | (apply kCallB; (exact aLenR)))) | (apply kOLoad; (exact aLdR)) | (apply kOIdx; (first | exact aIdx)))) | (refine kN ?_; (apply s_step)) | refine l_then ?_ | (refine kC ?_; (first | (refine c_loopV (ι := Nat) (fun j => j ≤ k.length ∧ k.take j = l.take j) (fun j => [(5, .int .i64 (j : Int))]) (fun _ => []) (fun j => k.length - j) 0 ⟨by omega, rfl⟩ rfl (fun _ => rfl) ⟨rfl, trivial⟩ (fun w hw => hw) (fun j hj => ?_)) | refine c_seq ?_ | refine c_regionN rfl ?_ | refine c_ret ?_ | (refine kCond ?_; (((refine c_cond_d rfl (fun h => ?_) (fun h => ?_)) <;> (try (first | contradiction | (exfalso; omega)))))) | refine c_block ?_ | refine c_skip ?_ | refine c_exit ?_ | refine c_regionQN rfl rfl (by decide +kernel) ?_)) | apply s_stepQ | refine lQ_then ?_ | (refine kE ?_; (first | refine e_then_r ?_ | refine e_block_r ?_ | refine e_then_n ?_ | refine e_then_x ?_ | refine e_block_n ?_ | refine e_block_x ?_)) | refine l_ends ?_)
  all_goals try simp only [Int.toNat_natCast] at *
  · exact s_leave1 rfl rfl (fun w hw => ⟨ret_false (ne_of_len (by omega)), hw.below⟩)
  · exact s_leave1 rfl rfl (fun w hw => ⟨ret_false (ne_of_getD (by assumption)), hw.below⟩)
  · exact e_round (j + 1) ⟨by omega, take_next hj.2 (by omega) (by omega) (by omega)⟩ ⟨rfl, (by repeat' first | exact trivial | refine ⟨rfl, ?_⟩)⟩ (fun w hw => hw) (by omega)
  · exact s_leave1 rfl rfl (fun w hw => ⟨ret_true (eq_of_take hj.2 (by omega) (by omega)), hw.below⟩)
theorem c_sameImage (i : DImg) (d e : Value) (w : World) (hd : RInts w d i.data) (he : RInts w e i.data) : SYields Try.prog 47 #[vImg i d, vImg i e] (.bool true) w := by
  have hd' := hd.form
  have he' := he.form
  obtain ⟨_, _, rfl⟩ := hd'
  obtain ⟨_, _, rfl⟩ := he'
  (first | apply SYields.mk | apply SYieldsF.mk | skip); refine s_enter Try.func47 rfl Try.ntmps47 rfl ?_
  repeat' (first | exact rfl | (apply kO; (first | exact ov_pure rfl | (apply kOCall; ((apply kCallF; (first | exact (ov_call rfl (fun w hw => c_sameInts _ _ i.data i.data w (riA hw) (riA hw))))))) | (apply kOLoad; (exact aLdF)) | exact ov_fieldAddr rfl)) | (refine kN ?_; (first | refine s_boxS rfl rfl (fun b hb => ?_) | apply s_step)) | (refine kG ?_; (first | refine s_gyes rfl rfl rfl ?_ | ((refine s_split_d rfl rfl (fun h => ?_) (fun h => ?_)) <;> (try (first | contradiction | (exfalso; omega) | (exfalso; (simp at h; done))))))) | refine l_then ?_ | (refine kC ?_; (first | refine c_seq ?_ | refine c_regionN rfl ?_ | refine c_ret ?_)))
  all_goals refine s_leave1 rfl rfl (fun w hw => ⟨?_, hw.below⟩)
  all_goals exact (ret_true (p := i.data = i.data) rfl).symm
end Go.Proofs.Ytpcammhmgleonaa
namespace Go.Proofs.Ytpcammhmgleonaa
open Go Sx
attribute [local irreducible] Exit.then Exit.inBlock bodyPost OInts
theorem c_sameRects (u v : Value) (k l : List DRect) (W : World) (hu : RRects W u k) (hv : RRects W v l) : SYields Try.prog 18 #[u, v] (.bool (decide (k = l))) W := by
  have hkl := hu.len
  have hll := hv.len
  (first | apply SYields.mk | apply SYieldsF.mk | skip); refine s_enter Try.func18 rfl Try.ntmps18 rfl ?_
  repeat' (first | exact rfl | (apply kO; (first | exact ov_pure rfl | (apply kOBin; (first | exact aBin)) | (apply kOCall; (first | (apply kCallB; (first | exact (ov_lenR (fun w hw => RRow.keep hu (hw.cells rfl)) rfl) | exact (ov_lenR (fun w hw => RRow.keep hv (hw.cells rfl)) rfl))))) | (apply kOLoad; (first | exact (ov_ldRZ (fun w hw => RRow.keep hu (hw.cells rfl)) rfl rfl (by omega) rfl) | exact (ov_ldRZ (fun w hw => RRow.keep hv (hw.cells rfl)) rfl rfl (by omega) rfl))) | (apply kOIdx; (first | exact (ov_idxR (fun w hw => RRow.keep hu (hw.cells rfl)) rfl rfl (by omega)) | exact (ov_idxR (fun w hw => RRow.keep hv (hw.cells rfl)) rfl rfl (by omega)))) | exact (ov_neRect rfl rfl))) | (refine kN ?_; (apply s_step)) | refine l_then ?_ | (refine kC ?_; (first | (refine c_loopV (ι := Nat) (fun j => j ≤ k.length ∧ eqTo k l DRect.zero j) (fun j => [(5, .int .i64 (j : Int))]) (fun _ => []) (fun j => k.length - j) 0 ⟨by omega, eqTo_zero _ _ _⟩ rfl (fun _ => rfl) ⟨rfl, trivial⟩ (fun w hw => hw) (fun j hj => ?_)) | refine c_seq ?_ | refine c_regionN rfl ?_ | refine c_ret ?_ | (refine kCond ?_; (((first | refine c_cond_d rfl (fun h => ?_) (fun h => ?_) | refine c_cond_n rfl (fun h => ?_) (fun h => ?_)) <;> (try (first | contradiction | (exfalso; omega)))))) | refine c_block ?_ | refine c_skip ?_ | refine c_exit ?_ | refine c_regionQN rfl rfl (by decide +kernel) ?_)) | apply s_stepQ | refine lQ_then ?_ | (refine kE ?_; (first | refine e_then_r ?_ | refine e_block_r ?_ | refine e_then_n ?_ | refine e_then_x ?_ | refine e_block_n ?_ | refine e_block_x ?_)) | refine l_ends ?_)
  all_goals try simp only [Int.toNat_natCast] at *
  all_goals first
    | exact s_leave1 rfl rfl (fun w hw => ⟨ret_false (ne_of_len (by omega)), hw.below⟩)
    | exact s_leave1 rfl rfl (fun w hw => ⟨ret_false (fun e => by subst e; contradiction), hw.below⟩)
    | exact e_round (j + 1) ⟨by omega, eqTo_next hj.2 (by assumption)⟩ ⟨rfl, (by repeat' first | exact trivial | refine ⟨rfl, ?_⟩)⟩ (fun w hw => hw) (by omega)
    | exact s_leave1 rfl rfl (fun w hw => ⟨ret_true (list_eq_of_getD DRect.zero (by omega) (fun i hi => hj.2 i (by omega))), hw.below⟩)
theorem c_sameScene (s : DScene) (d e : Value) (W : World) (hd : RS eSurf W d s.ss) (he : RS eSurf W e s.ss) : SYields Try.prog 36 #[vScene s d, vScene s e] (.bool true) W := by
  obtain ⟨ds, hd⟩ := hd
  obtain ⟨es, he⟩ := he
  have hl := hd.row.len
  (first | apply SYields.mk | apply SYieldsF.mk | skip); refine s_enter Try.func36 rfl Try.ntmps36 rfl ?_
  repeat' (first | exact rfl | (apply kO; (first | exact ov_pure rfl | (apply kOBin; (first | exact aBin)) | (apply kOCall; (first | (apply kCallF; (first | exact (ov_call rfl (fun w hw => c_ssameSurface (s.ss.getD j default) (s.ss.getD j default) _ _ w (RInts.keep (hd.rd _ (by omega)) (hw.cells rfl)) (RInts.keep (he.rd _ (by omega)) (hw.cells rfl)))))) | (apply kCallB; (first | exact (ov_lenR (fun w hw => hd.row.keep (hw.cells rfl)) rfl) | exact (ov_lenR (fun w hw => he.row.keep (hw.cells rfl)) rfl))))) | (apply kOLoad; (first | exact (ov_ldRZ (fun w hw => hd.row.keep (hw.cells rfl)) rfl rfl (by omega) rfl) | exact (ov_ldRZ (fun w hw => he.row.keep (hw.cells rfl)) rfl rfl (by omega) rfl) | exact aLdF)) | exact ov_fieldAddr rfl | (apply kOIdx; (first | exact (ov_idxR (fun w hw => hd.row.keep (hw.cells rfl)) rfl rfl (by omega)) | exact (ov_idxR (fun w hw => he.row.keep (hw.cells rfl)) rfl rfl (by omega)))))) | (refine kN ?_; (first | refine s_boxS rfl rfl (fun b hb => ?_) | apply s_step)) | (refine kG ?_; (first | refine s_gyes rfl rfl rfl ?_ | ((refine s_split_d rfl rfl (fun h => ?_) (fun h => ?_)) <;> (try (first | contradiction | (exfalso; omega) | (exfalso; (simp at h; done))))))) | (refine kS ?_; (first | refine h_exec rfl ?_ | refine h_nil ?_ | apply h_take)) | (refine kBack ?_; (refine h_backN rfl subA ?_)) | refine l_then ?_ | (refine kC ?_; (first | (refine kReg 6 ?_; refine c_regionSN (SPlan.take 0 (SPlan.take 1 (SPlan.take 2 (SPlan.take 3 (SPlan.take 4 (SPlan.take 5 (SPlan.take 6 (SPlan.take 7 (SPlan.take 8 (SPlan.take 9 (SPlan.run 10 (SPlan.take 11 SPlan.done)))))))))))) none rfl rfl (by decide +kernel) ?_) | (refine c_loopV (ι := Nat) (fun j => j ≤ s.ss.length) (fun j => [(5, .int .i64 (j : Int))]) (fun _ => [_, _]) (fun j => s.ss.length - j) 0 (by omega) rfl (fun _ => rfl) ⟨rfl, trivial⟩ (fun w hw => hw) (fun j hj => ?_)) | refine c_seq ?_ | refine c_regionN rfl ?_ | refine c_ret ?_ | (refine kCond ?_; (((first | refine c_cond_d rfl (fun h => ?_) (fun h => ?_) | refine c_cond_n rfl (fun h => ?_) (fun h => ?_)) <;> (try (first | contradiction | (exfalso; omega) | (exfalso; (simp at h; done))))))) | refine c_block ?_ | refine c_skip ?_ | refine c_exit ?_)) | (refine kE ?_; (first | refine e_then_n ?_ | refine e_then_x ?_ | refine e_block_n ?_ | refine e_block_x ?_)) | refine l_ends ?_)
  all_goals first
    | exact e_round (j + 1) (by omega) ⟨rfl, (by repeat' first | exact trivial | refine ⟨rfl, ?_⟩)⟩ (fun w hw => hw) (by omega)
    | exact s_leave1 rfl rfl (fun w hw => ⟨rfl, hw.below⟩)
theorem c_ihasPoint (r : DRect) (x y : Int) (W : World) : SYields Try.prog 43 #[vRect r, .int .i64 x, .int .i64 y] (.bool (decide (r.has x y))) W := by
  by_cases hr : r.ok
  · have hr' := hr
    unfold DRect.ok at hr'
    (first | apply SYields.mk | apply SYieldsF.mk | skip); refine s_enter Try.func43 rfl Try.ntmps43 rfl ?_
    repeat' (first | exact rfl | (apply kO; (first | exact ov_pure rfl | (apply kOBin; (first | exact aBin)) | (apply kOCall; ((apply kCallF; (first | exact (ov_call rfl (fun w hw => c_irectOk r w)))))) | (apply kOLoad; (exact aLdF)) | exact ov_fieldAddr rfl)) | (refine kN ?_; (first | refine s_boxS rfl rfl (fun b hb => ?_) | apply s_step)) | (refine kG ?_; (first | refine s_gyes rfl rfl rfl ?_ | refine s_gno rfl rfl rfl rfl rfl ?_ | ((refine s_split_d rfl rfl (fun h => ?_) (fun h => ?_)) <;> (try (first | contradiction | (exfalso; omega) | (exfalso; exact absurd hr (by assumption))))))) | refine l_then ?_ | (refine kC ?_; (first | refine c_seq ?_ | refine c_regionN rfl ?_ | refine c_ret ?_)))
    all_goals refine s_leave1 rfl rfl (fun w hw => ⟨?_, hw.below⟩)
    all_goals first | exact ret_true ⟨by assumption, by omega, by omega, by omega, by omega⟩ | (refine ret_false (fun hh => ?_); unfold DRect.has at hh; omega) | exact ret_dec ⟨fun hh => ⟨by assumption, by omega, by omega, by omega, by omega⟩, fun hh => by unfold DRect.has at hh; omega⟩
  · (first | apply SYields.mk | apply SYieldsF.mk | skip); refine s_enter Try.func43 rfl Try.ntmps43 rfl ?_
    repeat' (first | exact rfl | (apply kO; (first | exact ov_pure rfl | (apply kOBin; (first | exact aBin)) | (apply kOCall; ((apply kCallF; (first | exact (ov_call rfl (fun w hw => c_irectOk r w)))))) | (apply kOLoad; (exact aLdF)) | exact ov_fieldAddr rfl)) | (refine kN ?_; (first | refine s_boxS rfl rfl (fun b hb => ?_) | apply s_step)) | (refine kG ?_; (first | refine s_gyes rfl rfl rfl ?_ | refine s_gno rfl rfl rfl rfl rfl ?_ | ((refine s_split_d rfl rfl (fun h => ?_) (fun h => ?_)) <;> (try (first | contradiction | (exfalso; omega) | (exfalso; exact absurd (by assumption) hr)))))) | refine l_then ?_ | (refine kC ?_; (first | refine c_seq ?_ | refine c_regionN rfl ?_ | refine c_ret ?_)))
    all_goals refine s_leave1 rfl rfl (fun w hw => ⟨?_, hw.below⟩)
    all_goals exact ret_false (fun hh => hr hh.1)
theorem c_spixelOf (i : DImg) (d : Value) (x y : Int) (W : World) (hi : i.ok) (hx : 0 ≤ x ∧ x < i.W) (hy : 0 ≤ y ∧ y < i.H) (hd : RInts W d i.data) : SYields Try.prog 45 #[vImg i d, .int .i64 x, .int .i64 y] (.int .i64 (i.at x y)) W := by
  (first | apply SYields.mk | apply SYieldsF.mk | skip); refine s_enter Try.func45 rfl Try.ntmps45 rfl ?_
  repeat' (first | exact rfl | (apply kO; (first | exact ov_pure rfl | (apply kOCall; ((apply kCallF; (first | exact (ov_call rfl (fun w hw => c_simageOk i _ w (riA hw))) | exact (ov_call rfl (fun w hw => c_l05At i _ x y w hi (riA hw))))))) | (apply kOLoad; (exact aLdF)))) | (refine kN ?_; (first | refine s_boxS rfl rfl (fun b hb => ?_) | apply s_step)) | refine l_then ?_ | (refine kC ?_; (first | refine c_seq ?_ | refine c_regionN rfl ?_ | refine c_ret ?_ | (refine kCond ?_; (((refine c_cond_n rfl (fun h => ?_) (fun h => ?_)) <;> (try (first | contradiction | (exfalso; omega) | (exfalso; exact absurd hi (by assumption))))))) | refine c_skip ?_)) | (refine kE ?_; (refine e_then_n ?_)))
  all_goals refine s_leave1 rfl rfl (fun w hw => ⟨?_, hw.below⟩)
  all_goals (refine ret_int ?_; rw [if_pos ⟨by omega, by omega⟩]; rfl)
end Go.Proofs.Ytpcammhmgleonaa
namespace Go.Proofs.Ytpcammhmgleonaa
open Go Sx
attribute [local irreducible] Exit.then Exit.inBlock bodyPost
def mixG (op : Bool → Bool → Bool) (g h : Grid) (j : Nat) : Grid := fun y x => if y < j then op (g y x) (h y x) else g y x
theorem mixG_zero (op : Bool → Bool → Bool) (g h : Grid) : (mixG op g h 0).eqv g := fun y x _ _ => by unfold mixG; rw [if_neg (by omega)]
theorem mixG_next (op : Bool → Bool → Bool) (g h : Grid) {j : Nat} : (Grid.row (mixG op g h j) j (fun i => op (mixG op g h j j i) (h j i))).eqv (mixG op g h (j + 1)) := fun y x _ _ => by
  unfold Grid.row mixG
  by_cases e : y = j
  · subst e; rw [if_pos rfl, if_neg (by omega), if_pos (by omega)]
  · rw [if_neg e]
    by_cases e2 : y < j
    · rw [if_pos e2, if_pos (by omega)]
    · rw [if_neg e2, if_neg (by omega)]
theorem mixG_all (op : Bool → Bool → Bool) (g h : Grid) {j : Nat} (hj : 16 ≤ j) : (mixG op g h j).eqv (fun y x => op (g y x) (h y x)) := fun y x hy _ => by unfold mixG; rw [if_pos (by omega)]
section
variable {P : Program} {n : Nat} {lo : SMut} {s : World} {E : SEnv} {L : SHeap} {d : Option Tmp} {ty : TypeId} {pos : String} {after : Array Edge} {g0 : Option (Nat × Bool)} {x y : Operand} {xt yt : TypeId}
theorem ov_andNotG {f h : Nat → Bool} (hx : sval E x = some (.int .i64 (Sx.bits f 16 : Nat))) (hy : sval E y = some (.int .i64 (Sx.bits h 16 : Nat))) :
    SOpV P n lo s E L ⟨d, .binOp .andNot xt x y yt, ty, pos, after, g0⟩ (.int .i64 (Sx.bits (fun i => f i && !h i) 16 : Nat)) :=
  SOpV.of_run fun a ha w hw => by
    have b1 := bits16 f
    have b2 := bits16 h
    have b3 := bits_lt (fun i => f i && !h i) 16
    have e : (BitVec.ofInt 64 ((Sx.bits f 16 : Nat) : Int) &&& ~~~BitVec.ofInt 64 ((Sx.bits h 16 : Nat) : Int)).toNat = Sx.bits (fun i => f i && !h i) 16 := by
      apply Nat.eq_of_testBit_eq; intro i
      rw [BitVec.testBit_toNat, BitVec.getLsbD_and, BitVec.getLsbD_not, ← BitVec.testBit_toNat, ← BitVec.testBit_toNat, ofInt_toNat_nonneg (by omega), ofInt_toNat_nonneg (by omega), Int.toNat_natCast, Int.toNat_natCast, bits_testBit, bits_testBit, bits_testBit]
      by_cases hi : i < 16
      · simp [hi, show i < 64 by omega]
      · simp [hi]
    have h3 := wrap_nat (m := Sx.bits (fun i => f i && !h i) 16) (by omega)
    have : (execOp a.eval ⟨d, .binOp .andNot xt x y yt, ty, pos, after, g0⟩).run P w = .ok (.value (.int .i64 (IntKind.i64.wrap ((BitVec.ofInt 64 ((Sx.bits f 16 : Nat) : Int) &&& ~~~BitVec.ofInt 64 ((Sx.bits h 16 : Nat) : Int)).toNat : Int)))) w := by
      simp only [execOp, eqGuard, binOp, Op.intBits, ha.sval hx, ha.sval hy]
      rfl
    rw [this, e, h3]
end
theorem c_gor (g f : Grid) (w : World) : SYields Try.prog 60 #[gval g, gval f] (gval (g.or f)) w := by
  (first | apply SYields.mk | apply SYieldsF.mk | skip); refine s_enter Try.func60 rfl Try.ntmps60 rfl ?_
  repeat' (first | exact rfl | (apply kO; (first | exact ov_pure rfl | (apply kOBin; (first | exact aBin | exact (ov_orG rfl rfl))) | (apply kOLoad; (first | exact (ov_ldG (mixG (fun p q => p || q) g f j) rfl rfl gpA (by omega)) | exact (ov_ldG f rfl rfl gpA (by omega)) | exact aLdF)) | (apply kOIdx; (exact (ov_indexAddrA rfl rfl (by omega)))))) | (refine kN ?_; (first | (refine kStore ?_; (first | (refine s_setR _ rfl rfl gpA rfl (by simp [gl]; omega) ?_) | refine s_storeS _ rfl rfl gpA rfl rfl (by rfl) ?_ | refine s_storeS _ rfl rfl gpA rfl (ones_img oiA) (by rfl) ?_)) | refine s_boxS rfl rfl (fun b hb => ?_) | refine s_allocS rfl (fun b hb => ?_) | apply s_step)) | (refine kS ?_; (first | refine h_exec rfl ?_ | apply h_take)) | (refine kBack ?_; (refine h_back_last rfl ?_)) | refine l_then ?_ | (refine kC ?_; (first | (refine kReg 4 ?_; refine c_regionSN (SPlan.take 0 (SPlan.take 1 (SPlan.take 2 (SPlan.take 3 (SPlan.take 4 (SPlan.take 5 (SPlan.take 6 (SPlan.take 7 (SPlan.run 8 SPlan.done))))))))) (some 8) rfl rfl (by decide +kernel) ?_) | (refine kReg 4 ?_; refine c_regionSN (SPlan.take 0 (SPlan.take 1 (SPlan.take 2 (SPlan.take 3 (SPlan.take 4 (SPlan.take 5 (SPlan.take 6 (SPlan.take 7 (SPlan.run 8 SPlan.done))))))))) none rfl rfl (by decide +kernel) ?_) | (refine c_loopV (ι := Nat) (fun j => j ≤ 16) (fun j => [(6, .int .i64 (j : Int))]) (fun j => [_, _, [(_, srow (gl (mixG (fun p q => p || q) g f j)) _)]]) (fun j => 16 - j) 0 (by omega) rfl (fun _ => rfl) ⟨rfl, trivial⟩ (fun w hw => by rw [gl_congr (mixG_zero _ g f)]; exact hw) (fun j hj => ?_)) | refine c_seq ?_ | refine c_regionN rfl ?_ | refine c_ret ?_ | (refine kCond ?_; (((refine c_cond_d rfl (fun h => ?_) (fun h => ?_)) <;> (try (first | contradiction | (exfalso; omega)))))) | refine c_block ?_ | refine c_skip ?_ | refine c_exit ?_)) | (refine kE ?_; (first | refine e_then_n ?_ | refine e_then_x ?_ | refine e_block_n ?_ | refine e_block_x ?_)) | refine l_ends ?_)
  · refine e_round (j + 1) (by omega) ⟨slook_to rfl (vint_to (by push_cast; rfl)), (by repeat' first | exact trivial | refine ⟨rfl, ?_⟩)⟩ (fun w hw => ?_) (by omega)
    have e : (gl (mixG (fun p q => p || q) g f j)).set (0 + (j : Int).toNat * 1) (.int .i64 (Sx.bits (fun i => (fun p q => p || q) (mixG (fun p q => p || q) g f j j i) (f j i)) 16 : Nat)) = gl (mixG (fun p q => p || q) g f (j + 1)) := by
      rw [Nat.zero_add, Nat.mul_one, Int.toNat_natCast, gl_set _ (by omega), gl_congr (mixG_next (fun p q => p || q) g f)]
    rw [← e]; exact hw
  · refine s_leaveSF rfl rfl rfl fwA (fun w hw => ⟨?_, hw.below⟩)
    show Ending.returned (gval (mixG (fun p q => p || q) g f j)) = _
    rw [gval_congr (mixG_all (fun p q => p || q) g f (by omega))]; rfl
theorem c_gand (g f : Grid) (w : World) : SYields Try.prog 64 #[gval g, gval f] (gval (g.and f)) w := by
  (first | apply SYields.mk | apply SYieldsF.mk | skip); refine s_enter Try.func64 rfl Try.ntmps64 rfl ?_
  repeat' (first | exact rfl | (apply kO; (first | exact ov_pure rfl | (apply kOBin; (first | exact aBin | exact (ov_andG rfl rfl))) | (apply kOLoad; (first | exact (ov_ldG (mixG (fun p q => p && q) g f j) rfl rfl gpA (by omega)) | exact (ov_ldG f rfl rfl gpA (by omega)) | exact aLdF)) | (apply kOIdx; (exact (ov_indexAddrA rfl rfl (by omega)))))) | (refine kN ?_; (first | (refine kStore ?_; (first | (refine s_setR _ rfl rfl gpA rfl (by simp [gl]; omega) ?_) | refine s_storeS _ rfl rfl gpA rfl rfl (by rfl) ?_ | refine s_storeS _ rfl rfl gpA rfl (ones_img oiA) (by rfl) ?_)) | refine s_boxS rfl rfl (fun b hb => ?_) | refine s_allocS rfl (fun b hb => ?_) | apply s_step)) | (refine kS ?_; (first | refine h_exec rfl ?_ | apply h_take)) | (refine kBack ?_; (refine h_back_last rfl ?_)) | refine l_then ?_ | (refine kC ?_; (first | (refine kReg 4 ?_; refine c_regionSN (SPlan.take 0 (SPlan.take 1 (SPlan.take 2 (SPlan.take 3 (SPlan.take 4 (SPlan.take 5 (SPlan.take 6 (SPlan.take 7 (SPlan.run 8 SPlan.done))))))))) (some 8) rfl rfl (by decide +kernel) ?_) | (refine kReg 4 ?_; refine c_regionSN (SPlan.take 0 (SPlan.take 1 (SPlan.take 2 (SPlan.take 3 (SPlan.take 4 (SPlan.take 5 (SPlan.take 6 (SPlan.take 7 (SPlan.run 8 SPlan.done))))))))) none rfl rfl (by decide +kernel) ?_) | (refine c_loopV (ι := Nat) (fun j => j ≤ 16) (fun j => [(6, .int .i64 (j : Int))]) (fun j => [_, _, [(_, srow (gl (mixG (fun p q => p && q) g f j)) _)]]) (fun j => 16 - j) 0 (by omega) rfl (fun _ => rfl) ⟨rfl, trivial⟩ (fun w hw => by rw [gl_congr (mixG_zero _ g f)]; exact hw) (fun j hj => ?_)) | refine c_seq ?_ | refine c_regionN rfl ?_ | refine c_ret ?_ | (refine kCond ?_; (((refine c_cond_d rfl (fun h => ?_) (fun h => ?_)) <;> (try (first | contradiction | (exfalso; omega)))))) | refine c_block ?_ | refine c_skip ?_ | refine c_exit ?_)) | (refine kE ?_; (first | refine e_then_n ?_ | refine e_then_x ?_ | refine e_block_n ?_ | refine e_block_x ?_)) | refine l_ends ?_)
  · refine e_round (j + 1) (by omega) ⟨slook_to rfl (vint_to (by push_cast; rfl)), (by repeat' first | exact trivial | refine ⟨rfl, ?_⟩)⟩ (fun w hw => ?_) (by omega)
    have e : (gl (mixG (fun p q => p && q) g f j)).set (0 + (j : Int).toNat * 1) (.int .i64 (Sx.bits (fun i => (fun p q => p && q) (mixG (fun p q => p && q) g f j j i) (f j i)) 16 : Nat)) = gl (mixG (fun p q => p && q) g f (j + 1)) := by
      rw [Nat.zero_add, Nat.mul_one, Int.toNat_natCast, gl_set _ (by omega), gl_congr (mixG_next (fun p q => p && q) g f)]
    rw [← e]; exact hw
  · refine s_leaveSF rfl rfl rfl fwA (fun w hw => ⟨?_, hw.below⟩)
    show Ending.returned (gval (mixG (fun p q => p && q) g f j)) = _
    rw [gval_congr (mixG_all (fun p q => p && q) g f (by omega))]; rfl
theorem c_gwithout (g f : Grid) (w : World) : SYields Try.prog 69 #[gval g, gval f] (gval (g.without f)) w := by
  (first | apply SYields.mk | apply SYieldsF.mk | skip); refine s_enter Try.func69 rfl Try.ntmps69 rfl ?_
  repeat' (first | exact rfl | (apply kO; (first | exact ov_pure rfl | (apply kOBin; (first | exact aBin | exact (ov_andNotG rfl rfl))) | (apply kOLoad; (first | exact (ov_ldG (mixG (fun p q => p && !q) g f j) rfl rfl gpA (by omega)) | exact (ov_ldG f rfl rfl gpA (by omega)) | exact aLdF)) | (apply kOIdx; (exact (ov_indexAddrA rfl rfl (by omega)))))) | (refine kN ?_; (first | (refine kStore ?_; (first | (refine s_setR _ rfl rfl gpA rfl (by simp [gl]; omega) ?_) | refine s_storeS _ rfl rfl gpA rfl rfl (by rfl) ?_ | refine s_storeS _ rfl rfl gpA rfl (ones_img oiA) (by rfl) ?_)) | refine s_boxS rfl rfl (fun b hb => ?_) | refine s_allocS rfl (fun b hb => ?_) | apply s_step)) | (refine kS ?_; (first | refine h_exec rfl ?_ | apply h_take)) | (refine kBack ?_; (refine h_back_last rfl ?_)) | refine l_then ?_ | (refine kC ?_; (first | (refine kReg 4 ?_; refine c_regionSN (SPlan.take 0 (SPlan.take 1 (SPlan.take 2 (SPlan.take 3 (SPlan.take 4 (SPlan.take 5 (SPlan.take 6 (SPlan.take 7 (SPlan.run 8 SPlan.done))))))))) (some 8) rfl rfl (by decide +kernel) ?_) | (refine kReg 4 ?_; refine c_regionSN (SPlan.take 0 (SPlan.take 1 (SPlan.take 2 (SPlan.take 3 (SPlan.take 4 (SPlan.take 5 (SPlan.take 6 (SPlan.take 7 (SPlan.run 8 SPlan.done))))))))) none rfl rfl (by decide +kernel) ?_) | (refine c_loopV (ι := Nat) (fun j => j ≤ 16) (fun j => [(6, .int .i64 (j : Int))]) (fun j => [_, _, [(_, srow (gl (mixG (fun p q => p && !q) g f j)) _)]]) (fun j => 16 - j) 0 (by omega) rfl (fun _ => rfl) ⟨rfl, trivial⟩ (fun w hw => by rw [gl_congr (mixG_zero _ g f)]; exact hw) (fun j hj => ?_)) | refine c_seq ?_ | refine c_regionN rfl ?_ | refine c_ret ?_ | (refine kCond ?_; (((refine c_cond_d rfl (fun h => ?_) (fun h => ?_)) <;> (try (first | contradiction | (exfalso; omega)))))) | refine c_block ?_ | refine c_skip ?_ | refine c_exit ?_)) | (refine kE ?_; (first | refine e_then_n ?_ | refine e_then_x ?_ | refine e_block_n ?_ | refine e_block_x ?_)) | refine l_ends ?_)
  · refine e_round (j + 1) (by omega) ⟨slook_to rfl (vint_to (by push_cast; rfl)), (by repeat' first | exact trivial | refine ⟨rfl, ?_⟩)⟩ (fun w hw => ?_) (by omega)
    have e : (gl (mixG (fun p q => p && !q) g f j)).set (0 + (j : Int).toNat * 1) (.int .i64 (Sx.bits (fun i => (fun p q => p && !q) (mixG (fun p q => p && !q) g f j j i) (f j i)) 16 : Nat)) = gl (mixG (fun p q => p && !q) g f (j + 1)) := by
      rw [Nat.zero_add, Nat.mul_one, Int.toNat_natCast, gl_set _ (by omega), gl_congr (mixG_next (fun p q => p && !q) g f)]
    rw [← e]; exact hw
  · refine s_leaveSF rfl rfl rfl fwA (fun w hw => ⟨?_, hw.below⟩)
    show Ending.returned (gval (mixG (fun p q => p && !q) g f j)) = _
    rw [gval_congr (mixG_all (fun p q => p && !q) g f (by omega))]; rfl
end Go.Proofs.Ytpcammhmgleonaa
namespace Go.Proofs.Ytpcammhmgleonaa
open Go Sx
attribute [local irreducible] Exit.then Exit.inBlock bodyPost Sx.bits canonR rowR
theorem OVs.one {α : Type} {c : α → List Value} {k : Nat} {T : TypeId} {v : Value} {l : List α} {H : SPiece} (h : OVs c k T v l H) : v.oneCell' = true := by
  obtain ⟨a, q, rfl⟩ := h.form; rfl
theorem bits_same {g : Grid} {y z : Nat} : ((Sx.bits (g z) 16 : Nat) : Int) = (Sx.bits (g y) 16 : Nat) ↔ sameRow g y z = true := by
  rw [sameRow_iff]
  constructor
  · intro h; exact bits_inj.1 (by omega)
  · intro h; rw [bits_inj.2 h]
theorem hgt_of {g : Grid} {y e : Nat} (h1 : y + 1 ≤ e) (h2 : ∀ z, y < z → z < e → z < 16 ∧ sameRow g y z = true) (h3 : ¬ (e < 16 ∧ sameRow g y e = true)) : hgt g y = e - y := by
  have := rnl_eq (f := sameRow g y) (x := y + 1) (w := e - (y + 1)) (fun i a b => h2 i (by omega) (by omega)) (by rw [show y + 1 + (e - (y + 1)) = e by omega]; exact h3)
  unfold hgt; omega
theorem rnl_of {f : Nat → Bool} {x z : Nat} (h1 : x ≤ z) (h2 : ∀ i, x ≤ i → i < z → i < 16 ∧ f i = true) (h3 : ¬ (z < 16 ∧ f z = true)) : rnl f x = z - x :=
  rnl_eq (fun i a b => h2 i a (by omega)) (by rw [show x + (z - x) = z by omega]; exact h3)
theorem rowR_app {f : Nat → Bool} {y h : Int} {x z : Nat} (hx : x < 16) (h1 : x < z) (h2 : ∀ i, x ≤ i → i < z → i < 16 ∧ f i = true) (h3 : ¬ (z < 16 ∧ f z = true)) : rowR f y h x = [⟨x, y, (z : Int) - x, h⟩] ++ rowR f y h (z + 1) := by
  have e := rnl_of (Nat.le_of_lt h1) h2 h3
  rw [rowR_step hx, e, if_neg (by omega), show x + (z - x) + 1 = z + 1 by omega, show (((z - x : Nat)) : Int) = (z : Int) - x by omega]
theorem rowR_skip {f : Nat → Bool} {y h : Int} {x : Nat} (hx : x < 16) (h3 : ¬ (x < 16 ∧ f x = true)) : rowR f y h x = rowR f y h (x + 1) := by
  have e := rnl_of (Nat.le_refl x) (fun i a c => by omega) h3
  rw [rowR_step hx, e, if_pos (by omega), show x + (x - x) + 1 = x + 1 by omega]; rfl
set_option maxHeartbeats 4000000 in
theorem c_gregion (g : Grid) (W : World) : SYieldsF Try.prog 59 #[gval g] (fun u H => OReg u (canon g) H) W := by
  (first | apply SYields.mk | apply SYieldsF.mk | skip); refine s_enter Try.func59 rfl Try.ntmps59 rfl ?_
  repeat' (first | exact rfl | (apply kO; (first | exact ov_pure rfl | (apply kOBin; (first | exact aBin | exact (ov_andBit rfl rfl (by omega)))) | (apply kOLoad; (first | exact (ov_ldG g rfl rfl gpA (by omega)) | exact aLdF)) | exact ov_fieldAddr rfl | (apply kOIdx; (exact (ov_indexAddrA rfl rfl (by omega)))) | exact (ov_bit rfl rfl (by omega)) | exact aNew)) | (refine kN ?_; (first | (refine kCall ?_; (first | (refine kWApp ?_; (refine s_appendVs _ _ (c := cRect) (kk := 4) (a := ⟨x.1, y.1, (z : Int) - x.1, (e : Int) - y.1⟩) rfl rfl (by assumption) gpA gpA rfl rfl (by rw [scells_eq]; rfl) (by decide) (by omega) (by decide) rfl (fun v' H' hv' => ?_); have f1 := hv'.form; obtain ⟨ua, uc, rfl⟩ := f1)) | apply s_step)) | (refine kStore ?_; (first | (refine s_storeS _ rfl rfl gpA rfl (ones_cons (OVs.one (by assumption)) rfl) (by rfl) ?_) | refine s_store1 _ rfl rfl gpA rfl (by rfl) ?_ | refine s_storeS _ rfl rfl gpA rfl rfl (by rfl) ?_ | refine s_storeS _ rfl rfl gpA rfl (ones_img oiA) (by rfl) ?_)) | refine s_boxS rfl rfl (fun b hb => ?_) | refine s_allocS rfl (fun b hb => ?_) | refine s_buildSlice rfl rfl rfl rfl rfl (fun b hb => ?_) | apply s_step)) | refine l_then ?_ | (refine kC ?_; (first | (refine c_loopV (ι := Nat × List DRect × Value × SPiece) (fun y => y.1 ≤ 16 ∧ ORects y.2.2.1 y.2.1 y.2.2.2 ∧ y.2.1 ++ canonR g y.1 = canon g ∧ y.2.1.length ≤ 8 * y.1) (fun y => [(4, .int .i64 (y.1 : Int))]) (fun y => [[(_, srow [y.2.2.1] 34)], y.2.2.2, _, _]) (fun y => 16 - y.1) (0, [], _, []) ⟨by dsimp only; omega, OVs.nil, (show [] ++ canonR g 0 = canonR g 0 from List.nil_append _), by dsimp only; simp⟩ rfl (fun _ => rfl) ⟨rfl, trivial⟩ (fun w hw => hw.nil1) (fun y hy => ?_); obtain ⟨hy1, hy2, hy3, hy4⟩ := hy) | (refine c_loopV (ι := Nat) (fun e => (y.1 + 1 ≤ e ∧ e ≤ 16) ∧ ∀ z, y.1 < z → z < e → z < 16 ∧ sameRow g y.1 z = true) (fun e => [(5, .int .i64 (e : Int))]) (fun e => [_, _, _, _]) (fun e => 16 - e) (y.1 + 1) ⟨by omega, fun z a b => by omega⟩ rfl (fun _ => rfl) ⟨slook_to rfl (vint_to (by push_cast; rfl)), trivial⟩ (fun w hw => hw) (fun e he => ?_); obtain ⟨he1, he2⟩ := he) | (refine c_loopV (ι := Nat × List DRect × Value × SPiece) (fun x => x.1 ≤ 17 ∧ ORects x.2.2.1 x.2.1 x.2.2.2 ∧ x.2.1 ++ (rowR (g y.1) y.1 ((e : Int) - y.1) x.1 ++ canonR g e) = canon g ∧ x.2.1.length ≤ 8 * y.1 + x.1 / 2) (fun x => [(6, .int .i64 (x.1 : Int))]) (fun x => [[(_, srow [x.2.2.1] 34)], x.2.2.2, _, _]) (fun x => 17 - x.1) (0, y.2.1, y.2.2.1, y.2.2.2) ⟨by dsimp only; omega, hy2, by dsimp only; rw [← hy3, canonR_step (g := g) (y := y.1) (by omega), hgt_of he1.1 he2 (fun hh => by first | omega | (exact absurd (bits_same.2 hh.2) (by assumption))), show y.1 + (e - y.1) = e by omega, show (((e - y.1 : Nat)) : Int) = (e : Int) - y.1 by omega], by dsimp only; omega⟩ rfl (fun _ => rfl) ⟨rfl, trivial⟩ (fun w hw => hw) (fun x hx => ?_); obtain ⟨hx1, hx2, hx3, hx4⟩ := hx) | (refine c_loopV (ι := Nat) (fun z => (x.1 ≤ z ∧ z ≤ 16) ∧ ∀ i, x.1 ≤ i → i < z → i < 16 ∧ g y.1 i = true) (fun z => [(6, .int .i64 (z : Int))]) (fun z => [_, _, _, _]) (fun z => 16 - z) x.1 ⟨by omega, fun i a b => by omega⟩ rfl (fun _ => rfl) ⟨rfl, trivial⟩ (fun w hw => hw) (fun z hz => ?_); obtain ⟨hz1, hz2⟩ := hz) | refine c_seq ?_ | refine c_regionN rfl ?_ | refine c_ret ?_ | (refine kCond ?_; (first | refine c_cond_f rfl ?_ | ((refine c_cond_d rfl (fun h => ?_) (fun h => ?_)) <;> (try (first | contradiction | (exfalso; omega)))))) | refine c_block ?_ | refine c_skip ?_ | refine c_exit ?_ | refine c_regionQN rfl rfl (by decide +kernel) ?_)) | apply s_stepQ | (refine kQG ?_; (first | refine s_gyesQ rfl rfl rfl ?_ | refine s_gnoQ rfl rfl rfl rfl rfl ?_ | ((refine s_splitQ_d rfl rfl (fun h => ?_) (fun h => ?_)) <;> (try (first | contradiction | (exfalso; omega)))))) | refine lQ_then ?_ | (refine kE ?_; (first | refine e_then_n ?_ | refine e_then_x ?_ | refine e_block_n ?_ | refine e_block_x ?_)) | refine l_ends ?_)
  · refine e_round (e + 1) ⟨by omega, fun z a c => ?_⟩ ⟨slook_to rfl (vint_to (by push_cast; rfl)), (by repeat' first | exact trivial | refine ⟨rfl, ?_⟩)⟩ (fun w hw => hw) (by omega)
    by_cases e0 : z = e
    · subst e0; exact ⟨by omega, bits_same.1 h⟩
    · exact he2 z a (by omega)
  · refine e_round (z + 1) ⟨by omega, fun i a c => ?_⟩ ⟨slook_to rfl (vint_to (by push_cast; rfl)), (by repeat' first | exact trivial | refine ⟨rfl, ?_⟩)⟩ (fun w hw => hw) (by omega)
    by_cases e0 : i = z
    · subst e0; exact ⟨by omega, bit_ne.1 h⟩
    · exact hz2 i a (by omega)
  · have hxz : x.1 < z := by omega
    have hn : ¬ (z < 16 ∧ g y.1 z = true) := fun hh => by first | omega | exact absurd (bit_ne.2 hh.2) (by assumption)
    refine e_round (z + 1, _, _, H') ⟨by dsimp only; omega, hv', ?_, by dsimp only; rw [List.length_append, List.length_singleton]; omega⟩ ⟨slook_to rfl (vint_to (by push_cast; rfl)), (by repeat' first | exact trivial | refine ⟨rfl, ?_⟩)⟩ (fun w hw => hw.sub (selO_sub [false, true, true, true, true] _ _ rfl)) (by dsimp only; omega)
    dsimp only
    rw [← hx3, rowR_app (f := g y.1) (y := y.1) (h := (e : Int) - y.1) (by omega) hxz hz2 hn, List.append_assoc, List.append_assoc]
  · have hxz : z = x.1 := by omega
    have hn : ¬ (z < 16 ∧ g y.1 z = true) := fun hh => by first | omega | exact absurd (bit_ne.2 hh.2) (by assumption)
    subst hxz
    refine e_round (x.1 + 1, x.2.1, x.2.2.1, x.2.2.2) ⟨by dsimp only; omega, hx2, ?_, by dsimp only; omega⟩ ⟨slook_to rfl (vint_to (by push_cast; rfl)), (by repeat' first | exact trivial | refine ⟨rfl, ?_⟩)⟩ (fun w hw => hw) (by dsimp only; omega)
    dsimp only
    rw [← rowR_skip (f := g y.1) (y := y.1) (h := (e : Int) - y.1) (by omega) hn]; exact hx3
  · have hxz : x.1 < z := by omega
    have hn : ¬ (z < 16 ∧ g y.1 z = true) := fun hh => by first | omega | exact absurd (bit_ne.2 hh.2) (by assumption)
    refine e_round (z + 1, _, _, H') ⟨by dsimp only; omega, hv', ?_, by dsimp only; rw [List.length_append, List.length_singleton]; omega⟩ ⟨slook_to rfl (vint_to (by push_cast; rfl)), (by repeat' first | exact trivial | refine ⟨rfl, ?_⟩)⟩ (fun w hw => hw.sub (selO_sub [false, true, true, true, true] _ _ rfl)) (by dsimp only; omega)
    dsimp only
    rw [← hx3, rowR_app (f := g y.1) (y := y.1) (h := (e : Int) - y.1) (by omega) hxz hz2 hn, List.append_assoc, List.append_assoc]
  · rw [rowR_done (by omega), List.nil_append] at hx3
    exact e_round (e, x.2.1, x.2.2.1, x.2.2.2) ⟨by dsimp only; omega, hx2, hx3, by dsimp only; omega⟩ ⟨slook_to rfl (vint_to (by rfl)), (by repeat' first | exact trivial | refine ⟨rfl, ?_⟩)⟩ (fun w hw => hw) (by dsimp only; omega)
  · refine e_round (z + 1) ⟨by omega, fun i a c => ?_⟩ ⟨slook_to rfl (vint_to (by push_cast; rfl)), (by repeat' first | exact trivial | refine ⟨rfl, ?_⟩)⟩ (fun w hw => hw) (by omega)
    by_cases e0 : i = z
    · subst e0; exact ⟨by omega, bit_ne.1 h⟩
    · exact hz2 i a (by omega)
  · have hxz : x.1 < z := by omega
    have hn : ¬ (z < 16 ∧ g y.1 z = true) := fun hh => by first | omega | exact absurd (bit_ne.2 hh.2) (by assumption)
    refine e_round (z + 1, _, _, H') ⟨by dsimp only; omega, hv', ?_, by dsimp only; rw [List.length_append, List.length_singleton]; omega⟩ ⟨slook_to rfl (vint_to (by push_cast; rfl)), (by repeat' first | exact trivial | refine ⟨rfl, ?_⟩)⟩ (fun w hw => hw.sub (selO_sub [false, true, true, true, true] _ _ rfl)) (by dsimp only; omega)
    dsimp only
    rw [← hx3, rowR_app (f := g y.1) (y := y.1) (h := (e : Int) - y.1) (by omega) hxz hz2 hn, List.append_assoc, List.append_assoc]
  · have hxz : z = x.1 := by omega
    have hn : ¬ (z < 16 ∧ g y.1 z = true) := fun hh => by first | omega | exact absurd (bit_ne.2 hh.2) (by assumption)
    subst hxz
    refine e_round (x.1 + 1, x.2.1, x.2.2.1, x.2.2.2) ⟨by dsimp only; omega, hx2, ?_, by dsimp only; omega⟩ ⟨slook_to rfl (vint_to (by push_cast; rfl)), (by repeat' first | exact trivial | refine ⟨rfl, ?_⟩)⟩ (fun w hw => hw) (by dsimp only; omega)
    dsimp only
    rw [← rowR_skip (f := g y.1) (y := y.1) (h := (e : Int) - y.1) (by omega) hn]; exact hx3
  · have hxz : x.1 < z := by omega
    have hn : ¬ (z < 16 ∧ g y.1 z = true) := fun hh => by first | omega | exact absurd (bit_ne.2 hh.2) (by assumption)
    refine e_round (z + 1, _, _, H') ⟨by dsimp only; omega, hv', ?_, by dsimp only; rw [List.length_append, List.length_singleton]; omega⟩ ⟨slook_to rfl (vint_to (by push_cast; rfl)), (by repeat' first | exact trivial | refine ⟨rfl, ?_⟩)⟩ (fun w hw => hw.sub (selO_sub [false, true, true, true, true] _ _ rfl)) (by dsimp only; omega)
    dsimp only
    rw [← hx3, rowR_app (f := g y.1) (y := y.1) (h := (e : Int) - y.1) (by omega) hxz hz2 hn, List.append_assoc, List.append_assoc]
  · rw [rowR_done (by omega), List.nil_append] at hx3
    exact e_round (e, x.2.1, x.2.2.1, x.2.2.2) ⟨by dsimp only; omega, hx2, hx3, by dsimp only; omega⟩ ⟨slook_to rfl (vint_to (by rfl)), (by repeat' first | exact trivial | refine ⟨rfl, ?_⟩)⟩ (fun w hw => hw) (by dsimp only; omega)
  · have e0 : y.1 = 16 := by omega
    rw [e0, canonR_done (by omega), List.append_nil] at hy3
    rw [hy3] at hy2
    exact s_leaveSF rfl rfl rfl fwA (fun w hw => ⟨_, _, rfl, ⟨_, rfl, hy2⟩, hw.toFresh (H := y.2.2.2) gpA⟩)
end Go.Proofs.Ytpcammhmgleonaa
namespace Go.Proofs.Ytpcammhmgleonaa
open Go Sx
attribute [local irreducible] Exit.then Exit.inBlock bodyPost OVs OInts canonR rowR points Sx.canon
set_option maxHeartbeats 4000000 in
theorem c_gridOfRegion (v : Value) (l : List DRect) (W : World) (hv : RRects W v l) : SYields Try.prog 68 #[vReg v] (gval (points l)) W := by
  have hll := hv.len
  have hv' := hv.form
  obtain ⟨_, _, rfl⟩ := hv'
  have h0 : points (l.take 0) = Grid.none := by unfold points; funext y x; rfl
  (first | apply SYields.mk | apply SYieldsF.mk | skip); refine s_enter Try.func68 rfl Try.ntmps68 rfl ?_
  repeat' (first | exact rfl | (apply kO; (first | exact ov_pure rfl | (apply kOBin; (first | exact aBin)) | (apply kOCall; (first | (apply kCallF; (first | exact (ov_call rfl (fun w hw => c_gridOf (l.getD j DRect.zero) w)) | exact (ov_call rfl (fun w hw => c_gor (points (l.take j)) (rectG (l.getD j DRect.zero)) w)))) | (apply kCallB; (exact aBlt)))) | (apply kOLoad; (first | exact (ov_ldRZ (fun w hw => RRow.keep hv (hw.cells rfl)) rfl rfl (by omega) rfl) | exact aLdF)) | exact ov_fieldAddr rfl | (apply kOIdx; (exact (ov_idxR (fun w hw => RRow.keep hv (hw.cells rfl)) rfl rfl (by omega)))) | exact (ov_buildA0))) | (refine kN ?_; (first | (refine kStore ?_; (first | refine s_storeS _ rfl rfl gpA rfl rfl (by rfl) ?_ | refine s_storeS _ rfl rfl gpA rfl (ones_img oiA) (by rfl) ?_)) | refine s_boxS rfl rfl (fun b hb => ?_) | refine s_allocS rfl (fun b hb => ?_) | apply s_step)) | (refine kS ?_; (first | refine h_exec rfl ?_ | apply h_take)) | (refine kBack ?_; (first | refine h_back_last rfl ?_ | refine h_backN rfl subA ?_)) | refine l_then ?_ | (refine kC ?_; (first | (refine kReg 5 ?_; refine c_regionSN (SPlan.take 0 (SPlan.take 1 (SPlan.run 2 (SPlan.run 3 (SPlan.run 4 SPlan.done))))) (some 4) rfl rfl (by decide +kernel) ?_) | (refine kReg 5 ?_; refine c_regionSN (SPlan.take 0 (SPlan.take 1 (SPlan.run 2 (SPlan.run 3 (SPlan.run 4 SPlan.done))))) none rfl rfl (by decide +kernel) ?_) | (refine c_loopV (ι := Nat) (fun j => j ≤ l.length) (fun j => [(10, .int .i64 (j : Int))]) (fun j => [[(_, srow (gl (points (l.take j))) _)], _, _]) (fun j => l.length - j) 0 (by omega) rfl (fun _ => rfl) ⟨rfl, trivial⟩ (fun w hw => by rw [h0]; exact hw) (fun j hj => ?_)) | refine c_seq ?_ | refine c_regionN rfl ?_ | refine c_ret ?_ | (refine kCond ?_; (((refine c_cond_d rfl (fun h => ?_) (fun h => ?_)) <;> (try (first | contradiction | (exfalso; omega)))))) | refine c_block ?_ | refine c_skip ?_ | refine c_exit ?_)) | (refine kE ?_; (first | refine e_then_n ?_ | refine e_then_x ?_ | refine e_block_n ?_ | refine e_block_x ?_)) | refine l_ends ?_)
  · exact e_round (j + 1) (by omega) ⟨slook_to rfl (vint_to (by push_cast; rfl)), (by repeat' first | exact trivial | refine ⟨rfl, ?_⟩)⟩ (fun w hw => by rw [points_take (by omega)]; exact hw.sub (selO_sub [false, true, true, true] _ _ rfl)) (by omega)
  · refine s_leaveSF rfl rfl rfl fwA (fun w hw => ⟨?_, hw.below⟩)
    show Ending.returned (gval (points (l.take j))) = _
    rw [List.take_of_length_le (by omega)]
set_option maxHeartbeats 4000000 in
theorem c_iregionOf (v : Value) (l : List DRect) (W : World) (hv : RRects W v l) : SYieldsF Try.prog 71 #[v] (fun u H => OReg u (canon (points l)) H) W := by
  have hll := hv.len
  have hv' := hv.form
  obtain ⟨_, _, rfl⟩ := hv'
  have h0 : points (l.take 0) = Grid.none := by unfold points; funext y x; rfl
  (first | apply SYields.mk | apply SYieldsF.mk | skip); refine s_enter Try.func71 rfl Try.ntmps71 rfl ?_
  repeat' (first | exact rfl | (apply kO; (first | exact ov_pure rfl | (apply kOBin; (first | exact aBin)) | (apply kOCall; (first | (apply kCallF; (first | exact (ov_call rfl (fun w hw => c_irectOk (l.getD j DRect.zero) w)) | exact (ov_call rfl (fun w hw => c_gridOf (l.getD j DRect.zero) w)) | exact (ov_call rfl (fun w hw => c_gor (points (l.take j)) (rectG (l.getD j DRect.zero)) w)))) | (apply kCallB; (exact aBlt)))) | (apply kOLoad; (first | exact (ov_ldRZ (fun w hw => RRow.keep hv (hw.cells rfl)) rfl rfl (by omega) rfl) | exact aLdF)) | (apply kOIdx; (exact (ov_idxR (fun w hw => RRow.keep hv (hw.cells rfl)) rfl rfl (by omega)))) | exact (ov_buildA0))) | (refine kN ?_; (first | (refine kCall ?_; (first | (refine kWFn 59 ?_; (refine s_callF (fun u H => OReg u (canon (points (l.take j))) H) rfl (fun w hw => c_gregion (points (l.take j)) w) rfl (fun u H hu => ?_); obtain ⟨d', rfl, hu⟩ := hu)) | apply s_step)) | (refine kStore ?_; (first | (refine s_storeS _ rfl rfl gpA rfl (ones_cons (OVs.one (by assumption)) rfl) (by rfl) ?_) | refine s_storeS _ rfl rfl gpA rfl rfl (by rfl) ?_ | refine s_storeS _ rfl rfl gpA rfl (ones_img oiA) (by rfl) ?_)) | refine s_allocS rfl (fun b hb => ?_) | apply s_step)) | (refine kS ?_; (first | refine h_exec rfl ?_ | apply h_take)) | (refine kBack ?_; (first | refine h_back_last rfl ?_ | refine h_backN rfl subA ?_)) | refine l_then ?_ | (refine kC ?_; (first | (refine kReg 6 ?_; refine c_regionSN (SPlan.take 0 (SPlan.take 1 (SPlan.run 2 (SPlan.run 3 (SPlan.run 4 SPlan.done))))) (some 4) rfl rfl (by decide +kernel) ?_) | (refine kReg 6 ?_; refine c_regionSN (SPlan.take 0 (SPlan.take 1 (SPlan.run 2 (SPlan.run 3 (SPlan.run 4 SPlan.done))))) none rfl rfl (by decide +kernel) ?_) | (refine c_loopV (ι := Nat) (fun j => j ≤ l.length) (fun j => [(9, .int .i64 (j : Int))]) (fun j => [[(_, srow (gl (points (l.take j))) _)], _]) (fun j => l.length - j) 0 (by omega) rfl (fun _ => rfl) ⟨rfl, trivial⟩ (fun w hw => by rw [h0]; exact hw) (fun j hj => ?_)) | refine c_seq ?_ | refine c_regionN rfl ?_ | refine c_ret ?_ | (refine kCond ?_; (((refine c_cond_d rfl (fun h => ?_) (fun h => ?_)) <;> (try (first | contradiction | (exfalso; omega)))))) | refine c_block ?_ | refine c_skip ?_ | refine c_exit ?_)) | (refine kE ?_; (first | refine e_then_n ?_ | refine e_then_x ?_ | refine e_block_n ?_ | refine e_block_x ?_)) | refine l_ends ?_)
  · exact e_round (j + 1) (by omega) ⟨slook_to rfl (vint_to (by push_cast; rfl)), (by repeat' first | exact trivial | refine ⟨rfl, ?_⟩)⟩ (fun w hw => by rw [points_take (by omega)]; exact hw.sub (selO_sub [false, true, true] _ _ rfl)) (by omega)
  · exact e_round (j + 1) (by omega) ⟨slook_to rfl (vint_to (by push_cast; rfl)), (by repeat' first | exact trivial | refine ⟨rfl, ?_⟩)⟩ (fun w hw => by rw [points_take_ok (by omega) (by assumption)]; exact hw.sub (selO_sub [false, true, true] _ _ rfl)) (by omega)
  · rw [List.take_of_length_le (by omega)] at hu
    refine s_leaveSF rfl rfl rfl fwA (fun w hw => ⟨_, _, rfl, ⟨_, rfl, hu⟩, hw.toFresh (H := H) gpA⟩)
set_option maxHeartbeats 4000000 in
theorem c_equalRects (u v : Value) (k l : List DRect) (W : World) (hu : RRects W u k) (hv : RRects W v l) : SYields Try.prog 70 #[u, v] (.bool (decide (k = l))) W := by
  have hkl := hu.len
  have hll := hv.len
  (first | apply SYields.mk | apply SYieldsF.mk | skip); refine s_enter Try.func70 rfl Try.ntmps70 rfl ?_
  repeat' (first | exact rfl | (apply kO; (first | exact ov_pure rfl | (apply kOBin; (first | exact aBin)) | (apply kOCall; (first | (apply kCallB; (first | exact (ov_lenR (fun w hw => RRow.keep hu (hw.cells rfl)) rfl) | exact (ov_lenR (fun w hw => RRow.keep hv (hw.cells rfl)) rfl))))) | (apply kOLoad; (first | exact (ov_ldRZ (fun w hw => RRow.keep hu (hw.cells rfl)) rfl rfl (by omega) rfl) | exact (ov_ldRZ (fun w hw => RRow.keep hv (hw.cells rfl)) rfl rfl (by omega) rfl))) | (apply kOIdx; (first | exact (ov_idxR (fun w hw => RRow.keep hu (hw.cells rfl)) rfl rfl (by omega)) | exact (ov_idxR (fun w hw => RRow.keep hv (hw.cells rfl)) rfl rfl (by omega)))) | exact (ov_neRect rfl rfl))) | (refine kN ?_; (apply s_step)) | refine l_then ?_ | (refine kC ?_; (first | (refine c_loopV (ι := Nat) (fun j => j ≤ k.length ∧ eqTo k l DRect.zero j) (fun j => [(13, .int .i64 (j : Int))]) (fun _ => _) (fun j => k.length - j) 0 ⟨by omega, eqTo_zero _ _ _⟩ rfl (fun _ => rfl) ⟨rfl, trivial⟩ (fun w hw => hw) (fun j hj => ?_)) | refine c_seq ?_ | refine c_regionN rfl ?_ | refine c_ret ?_ | (refine kCond ?_; (((first | refine c_cond_d rfl (fun h => ?_) (fun h => ?_) | refine c_cond_n rfl (fun h => ?_) (fun h => ?_)) <;> (try (first | contradiction | (exfalso; omega)))))) | refine c_block ?_ | refine c_skip ?_ | refine c_exit ?_ | refine c_regionQN rfl rfl (by decide +kernel) ?_)) | apply s_stepQ | refine lQ_then ?_ | (refine kE ?_; (first | refine e_then_r ?_ | refine e_block_r ?_ | refine e_then_n ?_ | refine e_then_x ?_ | refine e_block_n ?_ | refine e_block_x ?_)) | refine l_ends ?_)
  all_goals first
    | exact s_leave1 rfl rfl (fun w hw => ⟨ret_false (ne_of_len (by omega)), hw.below⟩)
    | exact s_leave1 rfl rfl (fun w hw => ⟨ret_false (fun e => by subst e; contradiction), hw.below⟩)
    | exact e_round (j + 1) ⟨by omega, eqTo_next hj.2 (by assumption)⟩ ⟨rfl, (by repeat' first | exact trivial | refine ⟨rfl, ?_⟩)⟩ (fun w hw => hw) (by omega)
    | exact s_leave1 rfl rfl (fun w hw => ⟨ret_true (list_eq_of_getD DRect.zero (by omega) (fun i hi => hj.2 i (by omega))), hw.below⟩)
set_option maxHeartbeats 4000000 in
theorem c_iregionOk (v : Value) (l : List DRect) (W : World) (hv : RRects W v l) : SYields Try.prog 20 #[vReg v] (.bool (decide (regionOk l))) W := by
  (first | apply SYields.mk | apply SYieldsF.mk | skip); refine s_enter Try.func20 rfl Try.ntmps20 rfl ?_
  repeat' (first | exact rfl | (apply kO; (first | exact ov_pure rfl | (apply kOCall; ((apply kCallF; (first | exact (ov_call rfl (fun w hw => c_equalRects _ _ (canon (points l)) l w (ORects.rd (by assumption) (hfA hw)) (RVs.keep hv (hw.cells rfl)))))))) | (apply kOLoad; (exact aLdF)) | exact ov_fieldAddr rfl | exact (ov_field1 (ft := 32) rfl rfl rfl rfl) | exact (ov_field1 (ft := 37) rfl rfl rfl rfl))) | (refine kN ?_; (first | (refine kCall ?_; (first | (refine kWFn 71 ?_; (refine s_callF (fun u H => OReg u (canon (points l)) H) rfl (fun w hw => c_iregionOf v l w (hv.keep (hw.cells rfl))) rfl (fun u H hu => ?_); obtain ⟨d', rfl, hu⟩ := hu)) | apply s_step)) | refine s_boxS rfl rfl (fun b hb => ?_) | apply s_step)) | (refine kS ?_; (first | refine h_exec rfl ?_ | refine h_nil ?_ | apply h_take)) | (refine kBack ?_; (refine h_backN rfl subA ?_)) | refine l_then ?_ | (refine kC ?_; (first | (refine kReg 1 ?_; refine c_regionSN (SPlan.take 0 (SPlan.take 1 (SPlan.take 4 (SPlan.take 5 (SPlan.run 2 (SPlan.take 3 (SPlan.run 6 (SPlan.take 7 SPlan.done)))))))) none rfl rfl (by decide +kernel) ?_) | refine c_seq ?_ | refine c_regionN rfl ?_ | refine c_ret ?_)) | (refine kE ?_; (refine e_then_n ?_)))
  all_goals refine s_leave1 rfl rfl (fun w hw => ⟨ret_dec Iff.rfl, hw.below⟩)
set_option maxHeartbeats 4000000 in
theorem c_iwithoutOf (va vb : Value) (a c : List DRect) (W : World) (ha : RRects W va a) (hc : RRects W vb c) : SYieldsF Try.prog 17 #[vReg va, vReg vb] (fun u H => OReg u (withoutOf a c) H) W := by
  by_cases hok : regionOk a ∧ regionOk c
  · have hj0 : withoutOf a c = canon ((points a).without (points c)) := by unfold withoutOf; rw [if_pos hok]
    rw [hj0]
    (first | apply SYields.mk | apply SYieldsF.mk | skip); refine s_enter Try.func17 rfl Try.ntmps17 rfl ?_
    repeat' (first | exact rfl | (apply kO; (first | exact ov_pure rfl | (apply kOCall; ((apply kCallF; (first | exact (ov_call rfl (fun w hw => c_iregionOk va a w (ha.keep (hw.cells rfl)))) | exact (ov_call rfl (fun w hw => c_iregionOk vb c w (hc.keep (hw.cells rfl)))) | exact (ov_call rfl (fun w hw => c_gridOfRegion va a w (ha.keep (hw.cells rfl)))) | exact (ov_call rfl (fun w hw => c_gridOfRegion vb c w (hc.keep (hw.cells rfl)))) | exact (ov_call rfl (fun w hw => c_gwithout (points a) (points c) w)))))) | (apply kOLoad; (exact aLdF)) | exact aNew)) | (refine kN ?_; (first | (refine kCall ?_; (first | (refine kWFn 59 ?_; (refine s_callF (fun u H => OReg u (canon ((points a).without (points c))) H) rfl (fun w hw => c_gregion ((points a).without (points c)) w) rfl (fun u H hu => ?_); obtain ⟨d', rfl, hu⟩ := hu)) | apply s_step)) | (refine kStore ?_; (first | (refine s_storeS _ rfl rfl gpA rfl (ones_cons (OVs.one (by assumption)) rfl) (by rfl) ?_) | refine s_storeS _ rfl rfl gpA rfl rfl (by rfl) ?_ | refine s_storeS _ rfl rfl gpA rfl (ones_img oiA) (by rfl) ?_)) | refine s_boxS rfl rfl (fun b hb => ?_) | refine s_allocS rfl (fun b hb => ?_) | apply s_step)) | (refine kG ?_; (first | refine s_gyes rfl rfl rfl ?_ | refine s_gno rfl rfl rfl rfl rfl ?_ | ((refine s_split_n rfl rfl (fun h => ?_) (fun h => ?_)) <;> (try (first | contradiction | (exfalso; omega) | (exfalso; exact absurd hok.1 (by assumption)) | (exfalso; exact absurd hok.2 (by assumption))))))) | (refine kS ?_; (first | refine h_exec rfl ?_ | apply h_take)) | (refine kBack ?_; (first | refine h_back_last rfl ?_ | refine h_backN rfl subA ?_)) | refine l_then ?_ | (refine kC ?_; (first | (refine kReg 3 ?_; refine c_regionSN (SPlan.take 0 (SPlan.take 2 (SPlan.run 1 (SPlan.run 3 (SPlan.run 4 (SPlan.run 5 (SPlan.run 6 SPlan.done))))))) (some 6) rfl rfl (by decide +kernel) ?_) | (refine kReg 3 ?_; refine c_regionSN (SPlan.take 0 (SPlan.take 2 (SPlan.run 1 (SPlan.run 3 (SPlan.run 4 (SPlan.run 5 (SPlan.run 6 SPlan.done))))))) none rfl rfl (by decide +kernel) ?_) | refine c_seq ?_ | refine c_regionN rfl ?_ | refine c_ret ?_ | (refine kCond ?_; (first | refine c_cond_t rfl ?_ | ((refine c_cond_n rfl (fun h => ?_) (fun h => ?_)) <;> (try (first | contradiction | (exfalso; omega) | (exfalso; exact absurd hok.1 (by assumption)) | (exfalso; exact absurd hok.2 (by assumption))))))) | refine c_skip ?_)) | (refine kE ?_; (first | refine e_then_r ?_ | refine e_then_n ?_)))
    all_goals (refine kE ?_; refine s_leaveSF rfl rfl rfl fwA (fun w hw => ?_))
    all_goals exact ⟨_, _, rfl, ⟨_, rfl, hu⟩, hw.toFresh (H := H) gpA⟩
  · have hj0 : withoutOf a c = [] := by unfold withoutOf; rw [if_neg hok]
    rw [hj0]
    (first | apply SYields.mk | apply SYieldsF.mk | skip); refine s_enter Try.func17 rfl Try.ntmps17 rfl ?_
    repeat' (first | exact rfl | (apply kO; (first | exact ov_pure rfl | (apply kOCall; ((apply kCallF; (first | exact (ov_call rfl (fun w hw => c_iregionOk va a w (ha.keep (hw.cells rfl)))) | exact (ov_call rfl (fun w hw => c_iregionOk vb c w (hc.keep (hw.cells rfl)))))))) | (apply kOLoad; (exact aLdF)) | exact aNew)) | (refine kN ?_; (first | (refine kStore ?_; (first | refine s_storeS _ rfl rfl gpA rfl rfl (by rfl) ?_ | refine s_storeS _ rfl rfl gpA rfl (ones_img oiA) (by rfl) ?_)) | refine s_boxS rfl rfl (fun b hb => ?_) | refine s_allocS rfl (fun b hb => ?_) | apply s_step)) | (refine kG ?_; (first | refine s_gyes rfl rfl rfl ?_ | refine s_gno rfl rfl rfl rfl rfl ?_ | ((refine s_split_n rfl rfl (fun h => ?_) (fun h => ?_)) <;> (try (first | contradiction | (exfalso; omega) | (exfalso; exact absurd ⟨by assumption, by assumption⟩ hok)))))) | refine l_then ?_ | (refine kC ?_; (first | refine c_seq ?_ | refine c_regionN rfl ?_ | refine c_ret ?_ | (refine kCond ?_; (first | refine c_cond_t rfl ?_ | ((refine c_cond_n rfl (fun h => ?_) (fun h => ?_)) <;> (try (first | contradiction | (exfalso; omega) | (exfalso; exact absurd ⟨by assumption, by assumption⟩ hok)))))) | refine c_skip ?_)) | (refine kE ?_; (first | refine e_then_r ?_ | refine e_then_n ?_)))
    all_goals (refine kE ?_; refine s_leaveSF rfl rfl rfl fwA (fun w hw => ?_))
    all_goals exact ⟨_, [], rfl, ⟨_, rfl, OVs.nil⟩, hw.toFresh0⟩
set_option maxHeartbeats 4000000 in
theorem c_iareaOf (v : Value) (l : List DRect) (W : World) (hv : RRects W v l) : SYields Try.prog 16 #[vReg v] (.int .i64 (areaOf l)) W := by
  have hll := hv.len
  have hv' := hv.form
  obtain ⟨_, _, rfl⟩ := hv'
  by_cases hok : regionOk l
  · have h128 := hok.length
    have hbd := fun j => area_take_bd hok j
    have hab := fun (j : Nat) (hj : j < l.length) => inScreen_area (getD_inScreen hok hj)
    (first | apply SYields.mk | apply SYieldsF.mk | skip); refine s_enter Try.func16 rfl Try.ntmps16 rfl ?_
    repeat' (first | exact rfl | (apply kO; (first | exact ov_pure rfl | (apply kOBin; (first | exact aBin | exact (ov_mul rfl rfl (by have := hab j (by omega); (try simp only [Int.toNat_natCast]); omega)) | exact (ov_add rfl rfl (by have := hab j (by omega); have := hbd j; (try simp only [Int.toNat_natCast]); omega)))) | (apply kOCall; (first | (apply kCallF; (first | exact (ov_call rfl (fun w hw => c_iregionOk _ l w (hv.keep (hw.cells rfl)))))) | (apply kCallB; (exact aBlt)))) | (apply kOLoad; (first | exact (ov_ldRZ (fun w hw => RRow.keep hv (hw.cells rfl)) rfl rfl (by omega) rfl) | exact aLdF)) | exact ov_fieldAddr rfl | (apply kOIdx; (exact (ov_idxR (fun w hw => RRow.keep hv (hw.cells rfl)) rfl rfl (by omega)))))) | (refine kN ?_; (first | (refine kStore ?_; (first | refine s_storeS _ rfl rfl gpA rfl rfl (by rfl) ?_ | refine s_storeS _ rfl rfl gpA rfl (ones_img oiA) (by rfl) ?_)) | refine s_boxS rfl rfl (fun b hb => ?_) | refine s_allocS rfl (fun b hb => ?_) | apply s_step)) | refine l_then ?_ | (refine kC ?_; (first | (refine c_loopV (ι := Nat) (fun j => j ≤ l.length) (fun j => [(3, .int .i64 (area (l.take j))), (12, .int .i64 (j : Int))]) (fun _ => [_]) (fun j => l.length - j) 0 (by omega) rfl (fun _ => rfl) ⟨rfl, rfl, trivial⟩ (fun w hw => hw) (fun j hj => ?_)) | refine c_seq ?_ | refine c_regionN rfl ?_ | refine c_ret ?_ | (refine kCond ?_; (((first | refine c_cond_d rfl (fun h => ?_) (fun h => ?_) | refine c_cond_n rfl (fun h => ?_) (fun h => ?_)) <;> (try (first | contradiction | (exfalso; omega) | (exfalso; exact absurd hok (by assumption))))))) | refine c_block ?_ | refine c_skip ?_ | refine c_exit ?_)) | (refine kE ?_; (first | refine e_then_r ?_ | refine e_then_n ?_ | refine e_then_x ?_ | refine e_block_n ?_ | refine e_block_x ?_)) | refine l_ends ?_)
    all_goals first
      | exact e_round (j + 1) (by omega) ⟨slook_to rfl (vint_to (area_take_succ (by omega)).symm), slook_to rfl (vint_to (by push_cast; rfl)), (by repeat' first | exact trivial | refine ⟨rfl, ?_⟩)⟩ (fun w hw => hw.sub (selO_sub [false, true] _ _ rfl)) (by omega)
      | exact s_leave1 rfl rfl (fun w hw => ⟨ret_int (by unfold areaOf; rw [if_pos hok, List.take_of_length_le (by omega)]), hw.below⟩)
  · (first | apply SYields.mk | apply SYieldsF.mk | skip); refine s_enter Try.func16 rfl Try.ntmps16 rfl ?_
    repeat' (first | exact rfl | (apply kO; (first | exact ov_pure rfl | (apply kOBin; (first | exact aBin)) | (apply kOCall; (first | (apply kCallF; (first | exact (ov_call rfl (fun w hw => c_iregionOk _ l w (hv.keep (hw.cells rfl)))))) | (apply kCallB; (exact aBlt)))) | (apply kOLoad; (exact aLdF)) | exact ov_fieldAddr rfl | (apply kOIdx; (first | exact aIdx)))) | (refine kN ?_; (first | (refine kStore ?_; (first | refine s_storeS _ rfl rfl gpA rfl rfl (by rfl) ?_ | refine s_storeS _ rfl rfl gpA rfl (ones_img oiA) (by rfl) ?_)) | refine s_boxS rfl rfl (fun b hb => ?_) | refine s_allocS rfl (fun b hb => ?_) | apply s_step)) | refine l_then ?_ | (refine kC ?_; (first | refine c_seq ?_ | refine c_regionN rfl ?_ | refine c_ret ?_ | (refine kCond ?_; (((first | refine c_cond_d rfl (fun h => ?_) (fun h => ?_) | refine c_cond_n rfl (fun h => ?_) (fun h => ?_)) <;> (try (first | contradiction | (exfalso; omega) | (exfalso; exact absurd (by assumption) hok)))))) | refine c_block ?_ | refine c_skip ?_ | refine c_exit ?_)) | (refine kE ?_; (first | refine e_then_r ?_ | refine e_then_n ?_ | refine e_then_x ?_ | refine e_block_n ?_ | refine e_block_x ?_)) | refine l_ends ?_)
    all_goals exact s_leave1 rfl rfl (fun w hw => ⟨ret_int (by unfold areaOf; rw [if_neg hok]), hw.below⟩)
end Go.Proofs.Ytpcammhmgleonaa
namespace Sx
structure DChain where
  bufs : List DImg
  ages : List Int
  dams : List (List DRect)
  scene : DScene
deriving DecidableEq
def DChain.age (c : DChain) (k : Nat) : Int := c.ages.getD k 0
def DChain.buf (c : DChain) (k : Nat) : DImg := c.bufs.getD k DImg.zero
def DChain.dam (c : DChain) (k : Nat) : List DRect := c.dams.getD k []
def DChain.bufOk (c : DChain) (k : Nat) : Prop :=
  (c.buf k).ok ∧ (c.buf k).W = c.scene.W ∧ (c.buf k).H = c.scene.H ∧ (0 ≤ c.age k ∧ c.age k ≤ 3 ∧ c.age k ≤ c.dams.length + 1) ∧ ∀ i, i < k → c.age i = c.age k → c.age k = 0
instance (c : DChain) (k : Nat) : Decidable (c.bufOk k) := by unfold DChain.bufOk; infer_instance
def DChain.ok (c : DChain) : Prop :=
  c.scene.ok ∧ (1 ≤ c.bufs.length ∧ c.bufs.length ≤ 3) ∧ c.ages.length = c.bufs.length ∧ c.dams.length ≤ 3 ∧ (∀ k, k < c.bufs.length → c.bufOk k) ∧ ∀ k, k < c.dams.length → regionOk (c.dam k)
instance (c : DChain) : Decidable c.ok := by unfold DChain.ok; infer_instance
def nbFrom (l : List Int) : Nat → Nat → Nat → Nat
  | 0, best, _ => best
  | f + 1, best, k => if k < l.length then (if l.getD k 0 = 0 then k else nbFrom l f (if l.getD best 0 < l.getD k 0 then k else best) (k + 1)) else best
def nextB (c : DChain) : Nat := nbFrom c.ages c.ages.length 0 0
def nextBuffer (c : DChain) : Int := if c.ok then (nextB c : Int) else -1
def staleG (c : DChain) (k : Nat) (s : DScene) : Grid := fun y x => points (damageOf c.scene s) y x || (List.range (c.age k - 1).toNat).any (fun i => points (c.dam i) y x)
def staleR (c : DChain) (k : Nat) (s : DScene) : List DRect := if c.age k = 0 then canon (scrG s) else canon (staleG c k s)
def staleRegion (c : DChain) (k : Int) (s : DScene) : List DRect := if c.ok ∧ s.ok ∧ sameSize s c.scene ∧ 0 ≤ k ∧ k < c.bufs.length then staleR c k.toNat s else []
def presentable (c : DChain) (s : DScene) : Prop := c.ok ∧ s.ok ∧ sameSize s c.scene
instance (c : DChain) (s : DScene) : Decidable (presentable c s) := by unfold presentable; infer_instance
def newDams (c : DChain) (s : DScene) : List (List DRect) := (damageOf c.scene s :: c.dams).take 3
def newAge (c : DChain) (s : DScene) (i : Nat) : Int :=
  let a := if i = nextB c then 1 else if c.age i = 0 then 0 else c.age i + 1
  if 3 < a ∨ ((newDams c s).length : Int) + 1 < a then 0 else a
def presented (c : DChain) (s : DScene) : DChain :=
  ⟨c.bufs.set (nextB c) (paintInto (c.buf (nextB c)) s (staleR c (nextB c) s)), (List.range c.ages.length).map (newAge c s), newDams c s, s⟩
def shows (c : DChain) : Prop := ∀ k, k < c.bufs.length → c.age k ≠ 0 → ∀ y x : Nat, scrG c.scene y x = true → (∀ i : Nat, (i : Int) < c.age k - 1 → points (c.dam i) y x = false) → (c.buf k).at x y = paintF c.scene x y
end Sx
namespace Sx
theorem cnt_add {f : Nat → Bool} {x : Nat} (hf : f x = false) : ∀ n, x < n → cnt (fun i => f i || decide (i = x)) n = cnt f n + 1
  | 0, h => by omega
  | n + 1, h => by
    simp only [cnt]
    by_cases e : x = n
    · subst e
      have h1 : cnt (fun i => f i || decide (i = x)) x = cnt f x := cnt_congr x (fun i hi => by simp [show ¬ i = x by omega])
      have h2 : (if (f x || decide (x = x)) = true then 1 else 0) = (1 : Nat) := by simp
      have h3 : (if f x = true then 1 else 0) = (0 : Nat) := by simp [hf]
      show cnt (fun i => f i || decide (i = x)) x + (if (f x || decide (x = x)) = true then 1 else 0) = _
      rw [h1, h2, h3]
    · rw [cnt_add hf n (by omega)]
      have h2 : (if (f n || decide (n = x)) = true then 1 else 0) = (if f n = true then 1 else 0 : Nat) := by simp [show ¬ n = x by omega]
      show cnt f n + 1 + (if (f n || decide (n = x)) = true then 1 else 0) = _
      rw [h2]; omega
theorem sumN_add {f g : Nat → Nat} {y : Nat} (he : g y = f y + 1) (ho : ∀ i, i ≠ y → g i = f i) : ∀ n, y < n → sumN g n = sumN f n + 1
  | 0, h => by omega
  | n + 1, h => by
    simp only [sumN]
    by_cases e : y = n
    · subst e
      rw [sumN_congr y (fun i hi => ho i (by omega)), he]; omega
    · rw [sumN_add he ho n (by omega), ho n (fun hh => e hh.symm)]; omega
theorem card_add {g h : Grid} {y x : Nat} (hy : y < 16) (hx : x < 16) (hg : g y x = false) (e : h.eqv (fun b a => g b a || decide (b = y ∧ a = x))) : card h = card g + 1 := by
  rw [card_congr e]
  unfold card
  refine sumN_add (y := y) ?_ (fun i hi => ?_) 16 hy
  · have : cnt (fun a => g y a || decide (y = y ∧ a = x)) 16 = cnt (fun a => g y a || decide (a = x)) 16 := cnt_congr 16 (fun a _ => by simp)
    rw [this]; exact cnt_add hg 16 hx
  · exact cnt_congr 16 (fun a _ => by simp [hi])
theorem card_none {g : Grid} (e : g.eqv Grid.none) : card g = 0 := by rw [card_congr e]; decide
def hitG (s : DSurf) (g : Grid) (k : Nat) : Grid := fun y x => g y x && decide (hitTo s k x y)
theorem hitN_card {s : DSurf} (hs : s.ok) {g : Grid} {w h : Int} (hw : w ≤ 16) (hh : h ≤ 16) (hg : ∀ y x, y < 16 → x < 16 → g y x = true → (x : Int) < w ∧ (y : Int) < h) :
    ∀ k, k ≤ ((surfSize s).1 * (surfSize s).2).toNat → hitN s g w h k = card (hitG s g k)
  | 0, _ => by
    rw [card_none (g := hitG s g 0) (fun y x _ _ => by
      unfold hitG
      rw [decide_eq_false (hitTo_zero hs x y), Bool.and_false]; rfl)]
    rfl
  | k + 1, hk => by
    have ih := hitN_card hs hw hh hg k (by omega)
    have hsucc := fun (y x : Nat) => hitTo_succ hs (k := k) (by omega) (x : Int) (y : Int)
    unfold hitN
    rw [ih]
    by_cases e : ((0 ≤ kx s k ∧ kx s k ≤ w - 1) ∧ (0 ≤ ky s k ∧ ky s k ≤ h - 1)) ∧ inG g (kx s k) (ky s k) = true
    · rw [if_pos e]
      have hx := Int.toNat_of_nonneg e.1.1.1
      have hy := Int.toNat_of_nonneg e.1.2.1
      have hnot : ¬ hitTo s k ((kx s k).toNat : Int) ((ky s k).toNat : Int) := by rw [hx, hy]; exact hitTo_not hs
      rw [card_add (g := hitG s g k) (h := hitG s g (k + 1)) (y := (ky s k).toNat) (x := (kx s k).toNat) (by omega) (by omega)]
      · push_cast; rfl
      · unfold hitG; rw [decide_eq_false hnot, Bool.and_false]
      · intro b a hb ha
        unfold hitG
        by_cases e2 : b = (ky s k).toNat ∧ a = (kx s k).toNat
        · obtain ⟨rfl, rfl⟩ := e2
          have h1 : hitTo s (k + 1) ((kx s k).toNat : Int) ((ky s k).toNat : Int) := (hsucc _ _).2 (.inr ⟨hx, hy⟩)
          have h2 : g (ky s k).toNat (kx s k).toNat = true := e.2
          rw [h2, decide_eq_true h1]; simp
        · have h1 : decide (hitTo s (k + 1) (a : Int) (b : Int)) = decide (hitTo s k (a : Int) (b : Int)) := decide_eq_decide.2 ((hsucc b a).trans ⟨fun hh => hh.resolve_right (fun h3 => e2 ⟨by omega, by omega⟩), .inl⟩)
          rw [h1]; show _ = (_ || decide _)
          rw [decide_eq_false e2, Bool.or_false]
    · rw [if_neg e, Int.add_zero]
      congr 1
      refine card_congr (fun b a hb ha => ?_)
      unfold hitG
      by_cases e3 : g b a = true
      · have h1 : decide (hitTo s (k + 1) (a : Int) (b : Int)) = decide (hitTo s k (a : Int) (b : Int)) := decide_eq_decide.2 ((hsucc b a).trans ⟨fun hh => hh.resolve_right (fun h3 => e (by
          have h4 := hg b a hb ha e3
          refine ⟨⟨⟨by omega, by omega⟩, by omega, by omega⟩, ?_⟩
          unfold inG
          rw [← h3.1, ← h3.2, Int.toNat_natCast, Int.toNat_natCast]; exact e3)), .inl⟩)
        rw [h1]
      · have : g b a = false := by simpa using e3
        rw [this, Bool.false_and, Bool.false_and]
theorem hitN_all {s : DSurf} (hs : s.ok) {g : Grid} {w h : Int} (hw : w ≤ 16) (hh : h ≤ 16) (hg : ∀ y x, y < 16 → x < 16 → g y x = true → ((x : Int) < w ∧ (y : Int) < h) ∧ (rawRect s).has x y) :
    hitN s g w h ((surfSize s).1 * (surfSize s).2).toNat = card g := by
  rw [hitN_card hs hw hh (fun y x hy hx e => (hg y x hy hx e).1) _ (Nat.le_refl _)]
  congr 1
  refine card_congr (fun y x hy hx => ?_)
  unfold hitG
  by_cases e : g y x = true
  · rw [e, decide_eq_true ((hitTo_all hs x y).2 (hg y x hy hx e).2), Bool.true_and]
  · have : g y x = false := by simpa using e
    rw [this, Bool.false_and]
end Sx
namespace Sx
def bothR (to fr : DImg) : DRect := ⟨0, 0, min to.W fr.W, min to.H fr.H⟩
def copyTo (to fr : DImg) (g : Grid) (j i : Nat) : Int → Int → Int := boxTo (bothR to fr) (copyF to fr g) to.at j i
theorem copyTo_zero (to fr : DImg) (g : Grid) (ht : to.ok) : mapTo (copyTo to fr g 0 0) to.W (to.W * to.H).toNat = to.data := by
  unfold copyTo; rw [boxTo_zero]; exact ht.self.symm
theorem copyTo_row {to fr : DImg} {g : Grid} {j i : Nat} (hi : (i : Int) = min to.W fr.W) : copyTo to fr g j i = copyTo to fr g (j + 1) 0 := by
  unfold copyTo; exact boxTo_row (by unfold bothR; dsimp only; omega)
theorem copyTo_yes {to fr : DImg} {g : Grid} (ht : to.ok) (hf : fr.ok) {j i : Nat} (hj : (j : Int) < min to.H fr.H) (hi : (i : Int) < min to.W fr.W) (hg : g j i = true) :
    (mapTo (copyTo to fr g j i) to.W (to.W * to.H).toNat).set ((j : Int) * to.W + i).toNat (fr.data.getD ((j : Int) * fr.W + i).toNat 0) = mapTo (copyTo to fr g j (i + 1)) to.W (to.W * to.H).toNat := by
  rw [mapTo_set _ (w := to.W) (h := to.H) (x := (i : Int)) (y := (j : Int)) (by omega) (by omega)]
  congr 1
  unfold copyTo
  rw [boxTo_next (by unfold bothR; dsimp only; omega)]
  unfold bothR
  dsimp only
  funext x y
  rw [Int.zero_add, Int.zero_add]
  have e : copyF to fr g (i : Int) (j : Int) = fr.data.getD ((j : Int) * fr.W + i).toNat 0 := by
    unfold copyF; rw [if_pos ⟨hg, by omega, by omega⟩]; rfl
  rw [e]
theorem copyTo_no {to fr : DImg} {g : Grid} {j i : Nat} (hi : (i : Int) < min to.W fr.W) (hg : ¬ g j i = true) : copyTo to fr g j (i + 1) = copyTo to fr g j i := by
  unfold copyTo
  rw [boxTo_next (by unfold bothR; dsimp only; omega)]
  funext x y
  split
  · rename_i h
    obtain ⟨rfl, rfl⟩ := h
    rw [boxTo_here]
    unfold bothR
    dsimp only
    rw [Int.zero_add, Int.zero_add]
    unfold copyF
    rw [if_neg (fun e => hg e.1)]
  · rfl
theorem copyTo_all {to fr : DImg} {r : List DRect} (ht : to.ok) (hf : fr.ok) (hr : regionOk r) {j : Nat} (hj : (j : Int) = min to.H fr.H) : (⟨to.W, to.H, mapTo (copyTo to fr (points r) j 0) to.W (to.W * to.H).toNat⟩ : DImg) = copyRegion to fr r := by
  unfold copyRegion
  rw [if_pos ⟨ht, hf, hr⟩]
  unfold fimg
  congr 1
  refine mapTo_congr ht.1.1 (fun x y h1 h2 h3 h4 => ?_)
  unfold copyTo
  rw [boxTo_all (by unfold bothR; dsimp only; exact hj)]
  unfold bothR
  dsimp only
  split
  · rfl
  · unfold copyF
    rw [if_neg (by omega)]
def pvF (s : DScene) (n : Nat) (x y : Int) : Int := pvTo s n x.toNat y.toNat
theorem pvF_pix {s : DScene} (h : s.ok) {n : Nat} (hn : n ≤ s.ss.length) (x y : Int) : pixP (pvF s n x y) := pvTo_pix h n _ _ hn
theorem pvF_zero (s : DScene) : pvF s 0 = paintTo s 0 := by funext x y; rfl
def pvN (s : DScene) : Nat → Int
  | 0 => (card (((rectG (scrR s)).without (coverG s 0))) : Int)
  | n + 1 => pvN s n + (card (seenG s n) : Int)
theorem pvN_bd (s : DScene) : ∀ n : Nat, 0 ≤ pvN s n ∧ pvN s n ≤ 256 * (n + 1)
  | 0 => by
    have := sumN_le16 (fun y => cnt (((rectG (scrR s)).without (coverG s 0)) y) 16) (fun y => cnt_le _ 16)
    unfold pvN card; omega
  | n + 1 => by
    have := pvN_bd s n
    have h2 := sumN_le16 (fun y => cnt ((seenG s n) y) 16) (fun y => cnt_le _ 16)
    unfold pvN
    have : card (seenG s n) ≤ 256 := h2
    push_cast; omega
def paintVisible (s : DScene) : DImg := if s.ok then fimg (pvF s s.ss.length) s.W s.H else DImg.zero
def visibleCost (s : DScene) : Int := if s.ok then pvN s s.ss.length else 0
theorem paintVisible_eq {s : DScene} (h : s.ok) : paintVisible s = painted s := by
  unfold paintVisible painted
  rw [if_pos h]
  refine fimg_congr h.1.1 (fun x y h1 h2 h3 h4 => ?_)
  have hs : scrG s y.toNat x.toNat = true := (scrG_iff h _ _).2 ⟨by omega, by omega⟩
  have := pv_all h hs
  unfold pvF
  rw [this, show ((x.toNat : Nat) : Int) = x by omega, show ((y.toNat : Nat) : Int) = y by omega]
theorem seenG_in {s : DScene} (h : s.ok) {k y x : Nat} (hh : seenG s k y x = true) : ((x : Int) < s.W ∧ (y : Int) < s.H) ∧ (surfRect (s.ss.getD k default)).has x y := by
  unfold seenG Grid.without Grid.and at hh
  simp only [Bool.and_eq_true] at hh
  exact ⟨(scrG_iff h y x).1 hh.1.2, (holds_iff _ _ _).1 hh.1.1⟩
theorem seenG_hid {s : DScene} (h : s.ok) {k : Nat} (hv : ¬ (s.ss.getD k default).Visible = true) (y x : Nat) : seenG s k y x = false := by
  cases e : seenG s k y x
  · rfl
  · have := (seenG_in h e).2
    rw [surfRect_hid hv] at this
    exact absurd this (zero_has _ _)
theorem pv_one {s : DScene} (h : s.ok) {k : Nat} (hk : k < s.ss.length) (hv : (s.ss.getD k default).Visible = true) :
    mapTo (oneTo (s.ss.getD k default) (seenG s k) (pvF s k) ((surfSize (s.ss.getD k default)).1 * (surfSize (s.ss.getD k default)).2).toNat) s.W (s.W * s.H).toNat = mapTo (pvF s (k + 1)) s.W (s.W * s.H).toNat :=
  mapTo_congr h.1.1 (fun x y h1 h2 h3 h4 => by
    rw [oneTo_all (getD_ok h hk)]
    show _ = pvTo s (k + 1) x.toNat y.toNat
    unfold pvTo inG
    have ex : ((x.toNat : Nat) : Int) = x := by omega
    have ey : ((y.toNat : Nat) : Int) = y := by omega
    by_cases e : seenG s k y.toNat x.toNat = true
    · have h5 := (seenG_in h e).2
      rw [ex, ey, surfRect_vis (getD_ok h hk) hv] at h5
      rw [if_pos ⟨h5, e⟩, if_pos e, ex, ey]
      show over _ (pvTo s k x.toNat y.toNat) = _
      rfl
    · rw [if_neg (fun hh => e hh.2), if_neg e]; rfl)
theorem pv_hid {s : DScene} (h : s.ok) {k : Nat} (hv : ¬ (s.ss.getD k default).Visible = true) : pvF s (k + 1) = pvF s k := by
  funext x y
  show pvTo s (k + 1) x.toNat y.toNat = _
  unfold pvTo
  rw [seenG_hid h hv]; rfl
theorem pvN_one {s : DScene} (h : s.ok) {k : Nat} (hk : k < s.ss.length) (hv : (s.ss.getD k default).Visible = true) :
    pvN s k + hitN (s.ss.getD k default) (seenG s k) s.W s.H ((surfSize (s.ss.getD k default)).1 * (surfSize (s.ss.getD k default)).2).toNat = pvN s (k + 1) := by
  rw [hitN_all (getD_ok h hk) h.1.2 h.2.1.2 (fun y x hy hx e => by
    have := seenG_in h e
    rw [surfRect_vis (getD_ok h hk) hv] at this
    exact this)]
  rfl
theorem pvN_hid {s : DScene} (h : s.ok) {k : Nat} (hv : ¬ (s.ss.getD k default).Visible = true) : pvN s (k + 1) = pvN s k := by
  show pvN s k + (card (seenG s k) : Int) = _
  rw [card_none (fun y x _ _ => seenG_hid h hv y x)]; simp
def seeTo (s : DScene) (k : Nat) (j i : Nat) : Int → Int → Int := boxTo (scrR s) (fun x y => pvF s (k + 1) x y) (pvF s k) j i
theorem areaOf_canon (g : Grid) : areaOf (canon g) = card g := by unfold areaOf; rw [if_pos (regionOk_canon g), area_canon]
theorem seen_area {s : DScene} (h : s.ok) {k : Nat} (hk : k < s.ss.length) : areaOf (visibleOf s k) = (card (seenG s k) : Int) := by
  unfold visibleOf
  rw [if_pos ⟨h, by omega⟩, areaOf_canon]; rfl
end Sx
namespace Sx
def inside (c : DChain) : Prop := ∀ k, k < c.dams.length → ∀ y x, y < 16 → x < 16 → points (c.dam k) y x = true → scrG c.scene y x = true
theorem sumN_const (k : Nat) : ∀ (n m : Nat), m ≤ n → sumN (fun y => if y < m then k else 0) n = m * k
  | 0, m, h => by simp [sumN, show m = 0 by omega]
  | n + 1, m, h => by
    unfold sumN
    by_cases e : m = n + 1
    · subst e
      have h1 : sumN (fun y => if y < n + 1 then k else 0) n = sumN (fun y => if y < n then k else 0) n := sumN_congr n (fun y hy => by rw [if_pos hy, if_pos (by omega)])
      rw [h1, sumN_const k n n (Nat.le_refl _), if_pos (by omega), Nat.succ_mul]
    · rw [sumN_const k n m (by omega), if_neg (by omega)]; rfl
theorem cnt_lt (m : Nat) : ∀ n, m ≤ n → cnt (fun x => decide (x < m)) n = m
  | 0, h => by simp [cnt]; omega
  | n + 1, h => by
    unfold cnt
    by_cases e : m = n + 1
    · subst e
      have h1 : cnt (fun x => decide (x < n + 1)) n = cnt (fun x => decide (x < n)) n := cnt_congr n (fun y hy => by rw [decide_eq_true hy, decide_eq_true (by omega)])
      rw [h1, cnt_lt n n (Nat.le_refl _)]; simp
    · rw [cnt_lt m n (by omega)]; simp; omega
theorem cnt_none : ∀ n, cnt (fun _ => false) n = 0
  | 0 => rfl
  | n + 1 => by unfold cnt; rw [cnt_none n]; rfl
theorem card_scr {s : DScene} (h : s.ok) : (card (scrG s) : Int) = s.W * s.H := by
  have h1 := h.1
  have h2 := h.2.1
  have e : card (scrG s) = s.H.toNat * s.W.toNat := by
    unfold card
    rw [← sumN_const s.W.toNat 16 s.H.toNat (by omega)]
    refine sumN_congr 16 (fun y hy => ?_)
    by_cases hh : y < s.H.toNat
    · rw [if_pos hh, ← cnt_lt s.W.toNat 16 (by omega)]
      refine cnt_congr 16 (fun x hx => ?_)
      by_cases hw : x < s.W.toNat
      · rw [decide_eq_true hw]; exact (scrG_iff h y x).2 ⟨by omega, by omega⟩
      · rw [decide_eq_false hw]
        cases hc : scrG s y x with
        | false => rfl
        | true => have := (scrG_iff h y x).1 hc; omega
    · rw [if_neg hh, ← cnt_none 16]
      refine cnt_congr 16 (fun x hx => ?_)
      cases hc : scrG s y x with
      | false => rfl
      | true => have := (scrG_iff h y x).1 hc; omega
  rw [e]
  push_cast
  rw [Int.toNat_of_nonneg (by omega), Int.toNat_of_nonneg (by omega), Int.mul_comm]
def nbOf (l : List Int) : Nat := nbFrom l l.length 0 0
def nextAges (l : List Int) (d : Nat) : List Int := (List.range l.length).map (fun i =>
  let a := if i = nbOf l then 1 else if l.getD i 0 = 0 then 0 else l.getD i 0 + 1
  if 3 < a ∨ ((min 3 (d + 1) : Nat) : Int) + 1 < a then 0 else a)
def agesA (n k : Nat) : List Int := (List.range n).map (fun i => if i < k then (k : Int) - i else 0)
def agesB (n j : Nat) : List Int := (List.range n).map (fun i => if i < j then (j : Int) - i else (n : Int) + j - i)
def newChain (s : DScene) (n : Int) : DChain := if s.ok ∧ (1 ≤ n ∧ n ≤ 3) then ⟨List.replicate n.toNat (newImage s.W s.H s.Back), List.replicate n.toNat 0, [], s⟩ else ⟨[], [], [], ⟨0, 0, 0, []⟩⟩
end Sx
namespace Sx
theorem getD_set {l : List DSurf} {k i : Nat} {x : DSurf} (hk : k < l.length) : (l.set k x).getD i default = if i = k then x else l.getD i default := by
  rw [List.getD_eq_getElem?_getD, List.getElem?_set, List.getD_eq_getElem?_getD]
  by_cases e : k = i
  · subst e; rw [if_pos rfl, if_pos hk, if_pos rfl]; rfl
  · rw [if_neg e, if_neg (fun h => e h.symm)]
theorem set_self {l : List DSurf} {k : Nat} (hk : k < l.length) : l.set k (l.getD k default) = l := by
  rw [List.getD_eq_getElem?_getD, List.getElem?_eq_getElem hk]
  exact List.set_getElem_self hk
theorem surfsOk_set {l : List DSurf} (h : surfsOk l l.length) {k : Nat} (hk : k < l.length) {x : DSurf} (hx : x.ok) (hid : x.Id = (l.getD k default).Id) : surfsOk (l.set k x) (l.set k x).length := by
  have hI : ∀ i, ((l.set k x).getD i default).Id = (l.getD i default).Id := fun i => by
    rw [getD_set hk]; split
    · rename_i e; rw [e]; exact hid
    · rfl
  intro i hi
  rw [List.length_set] at hi
  refine ⟨?_, fun j hj => ?_⟩
  · rw [getD_set hk]; split
    · exact hx
    · exact (h i hi).1
  · rw [hI, hI]; exact (h i hi).2 j hj
def moved (x : DSurf) (a b : Int) : DSurf := { x with X := a, Y := b }
def moveE (id a b : Int) : DEdit := ⟨2, id, a, b, DImg.zero⟩
theorem move_edit {s : DScene} (h : s.ok) {k : Nat} (hk : k < s.ss.length) {a b : Int} (ha : -32 ≤ a ∧ a ≤ 32) (hb : -32 ≤ b ∧ b ≤ 32) :
    doEditOk s (moveE (s.ss.getD k default).Id a b) ∧ doEdit s (moveE (s.ss.getD k default).Id a b) = { s with ss := s.ss.set k (moved (s.ss.getD k default) a b) } := by
  have hi := surfaceIndex_at h.2.2.2.2 hk
  have he : edited s (moveE (s.ss.getD k default).Id a b) = { s with ss := s.ss.set k (moved (s.ss.getD k default) a b) } := by
    unfold edited
    rw [if_neg (by simp [moveE]), if_neg (by simp [moveE])]
    show ({ s with ss := editK s.ss _ (surfaceIndex s.ss (s.ss.getD k default).Id).toNat } : DScene) = _
    rw [hi, Int.toNat_natCast]
    unfold editK touched
    rw [if_neg (by simp [moveE]), if_neg (by simp [moveE]), if_neg (by simp [moveE]), if_pos (by simp [moveE])]
    rfl
  have hx := (h.2.2.2.2 k hk).1
  have hok : doEditOk s (moveE (s.ss.getD k default).Id a b) := by
    refine ⟨h, .inr (.inr ⟨by simp [moveE], ?_⟩), ?_⟩
    · show 0 ≤ surfaceIndex s.ss (s.ss.getD k default).Id
      rw [hi]; omega
    · rw [he]
      refine ⟨h.1, h.2.1, h.2.2.1, ?_, ?_⟩
      · dsimp only; rw [List.length_set]; exact h.2.2.2.1
      · exact surfsOk_set h.2.2.2.2 hk ⟨hx.1, ha, hb, hx.2.2.2⟩ rfl
  refine ⟨hok, ?_⟩
  unfold doEdit
  rw [if_pos hok, he]
theorem move_back {s : DScene} (h : s.ok) {k : Nat} (hk : k < s.ss.length) {u : DScene} (hu : u = { s with ss := s.ss.set k (moved (s.ss.getD k default) 5 (-5)) }) :
    u.ok ∧ doEditOk u (moveE (s.ss.getD k default).Id (s.ss.getD k default).X (s.ss.getD k default).Y) ∧ doEdit u (moveE (s.ss.getD k default).Id (s.ss.getD k default).X (s.ss.getD k default).Y) = s ∧ surfaceIndex u.ss (s.ss.getD k default).Id = surfaceIndex s.ss (s.ss.getD k default).Id := by
  have h1 := move_edit h hk (a := 5) (b := -5) (by omega) (by omega)
  have huo : u.ok := by rw [hu, ← h1.2]; exact doEdit_ok h _
  have hx := (h.2.2.2.2 k hk).1
  have hus : u.ss = s.ss.set k (moved (s.ss.getD k default) 5 (-5)) := by rw [hu]
  have huk : k < u.ss.length := by rw [hus, List.length_set]; exact hk
  have hg : u.ss.getD k default = moved (s.ss.getD k default) 5 (-5) := by rw [hus, getD_set hk, if_pos rfl]
  have hid : (u.ss.getD k default).Id = (s.ss.getD k default).Id := by rw [hg]; rfl
  have h2 := move_edit huo huk (a := (s.ss.getD k default).X) (b := (s.ss.getD k default).Y) hx.2.1 hx.2.2.1
  rw [hid] at h2
  refine ⟨huo, h2.1, ?_, ?_⟩
  · rw [h2.2, hg, hus, List.set_set]
    have e : moved (moved (s.ss.getD k default) 5 (-5)) (s.ss.getD k default).X (s.ss.getD k default).Y = s.ss.getD k default := rfl
    rw [e, set_self hk, hu]
  · have e1 := surfaceIndex_at huo.2.2.2.2 huk
    rw [hid] at e1
    rw [e1, surfaceIndex_at h.2.2.2.2 hk]
def restS (s : DScene) : DScene := { s with ss := s.ss.take (s.ss.length - 1) }
theorem take_ok {s : DScene} (h : s.ok) (n : Nat) : ({ s with ss := s.ss.take n } : DScene).ok := by
  refine ⟨h.1, h.2.1, h.2.2.1, ?_, fun i hi => ?_⟩
  · show (s.ss.take n).length ≤ 6
    rw [List.length_take]; have := h.2.2.2.1; omega
  · change i < (s.ss.take n).length at hi
    rw [List.length_take] at hi
    have hg : ∀ j, j ≤ i → (s.ss.take n).getD j default = s.ss.getD j default := fun j hj => by
      rw [List.getD_eq_getElem?_getD, List.getElem?_take, if_pos (by omega), List.getD_eq_getElem?_getD]
    show ((s.ss.take n).getD i default).ok ∧ ∀ j, j < i → ((s.ss.take n).getD j default).Id ≠ ((s.ss.take n).getD i default).Id
    rw [hg i (Nat.le_refl _)]
    exact ⟨(h.2.2.2.2 i (by omega)).1, fun j hj => by rw [hg j (by omega)]; exact (h.2.2.2.2 i (by omega)).2 j hj⟩
theorem paintF_last {s : DScene} (h : 0 < s.ss.length) (x y : Int) : paintF s x y = layer (s.ss.getD (s.ss.length - 1) default) x y (paintF (restS s) x y) := by
  have e : s.ss = s.ss.take (s.ss.length - 1) ++ [s.ss.getD (s.ss.length - 1) default] := by
    conv => lhs; rw [← List.take_length (l := s.ss), show s.ss.length = (s.ss.length - 1) + 1 by omega]
    rw [List.take_add_one, List.getElem?_eq_getElem (by omega), List.getD_eq_getElem?_getD, List.getElem?_eq_getElem (by omega)]; rfl
  unfold paintF restS
  dsimp only
  conv => lhs; rw [e]
  rw [layers_append]; rfl
theorem paintF_empty {s : DScene} (h : s.ss.length = 0) (x y : Int) : paintF s x y = s.Back := by
  unfold paintF
  rw [List.eq_nil_of_length_eq_zero h]; rfl
theorem has_place {q : DSurf} {x y : Int} (h : (surfRect q).has x y) : (surfRect q).X = q.X ∧ (surfRect q).Y = q.Y ∧ q.ok ∧ (0 ≤ x - q.X ∧ x - q.X < (pictureOf q).W) ∧ (0 ≤ y - q.Y ∧ y - q.Y < (pictureOf q).H) := by
  by_cases hv : q.ok ∧ q.Visible = true
  · rw [surfRect_vis hv.1 hv.2] at h ⊢
    unfold DRect.has rawRect at h
    unfold rawRect
    dsimp only at h ⊢
    have e1 := surfSize_pic hv.1
    refine ⟨rfl, rfl, hv.1, ?_, ?_⟩
    · rw [e1.1]; omega
    · rw [e1.2]; omega
  · unfold surfRect at h
    rw [if_neg hv] at h
    exact absurd h (zero_has _ _)
def keepV (s : DScene) (k : Nat) : Bool := decide (0 < areaOf (visibleOf s k))
def hiddenS (s : DScene) : DScene := { s with ss := keptTo s (keepV s) s.ss.length }
theorem keptTo_len (s : DScene) (keep : Nat → Bool) : ∀ k, (keptTo s keep k).length ≤ k
  | 0 => Nat.le_refl _
  | k + 1 => by
    have := keptTo_len s keep k
    unfold keptTo
    rw [List.length_append]; split <;> simp <;> omega
theorem card_pos {g : Grid} {y x : Nat} (hy : y < 16) (hx : x < 16) (h : g y x = true) : 0 < card g := by
  have h1 : card (fun b a => decide (b = y ∧ a = x)) = 1 := by
    have := card_add (g := Grid.none) (h := fun b a => decide (b = y ∧ a = x)) hy hx rfl (fun b a _ _ => by unfold Grid.none; simp)
    rw [this, card_none (fun _ _ _ _ => rfl)]
  have h2 := card_mono (g := fun b a => decide (b = y ∧ a = x)) (h := g) (fun b a _ _ e => by
    simp only [decide_eq_true_eq] at e
    rw [e.1, e.2]; exact h)
  omega
theorem keptTo_ids (s : DScene) (keep : Nat → Bool) : ∀ k q, q ∈ keptTo s keep k → ∃ i, i < k ∧ q = s.ss.getD i default
  | 0, q, hq => by cases hq
  | k + 1, q, hq => by
    unfold keptTo at hq
    rcases List.mem_append.1 hq with hq | hq
    · obtain ⟨i, h1, h2⟩ := keptTo_ids s keep k q hq
      exact ⟨i, by omega, h2⟩
    · split at hq
      · rw [List.mem_singleton] at hq; exact ⟨k, by omega, hq⟩
      · cases hq
theorem surfsOk_pair {l : List DSurf} (h1 : ∀ q ∈ l, q.ok) (h2 : l.Pairwise (fun a b => a.Id ≠ b.Id)) : surfsOk l l.length := fun i hi => by
  refine ⟨h1 _ (mem_getD.2 ⟨i, hi, rfl⟩), fun j hj => ?_⟩
  rw [List.pairwise_iff_getElem] at h2
  have := h2 j i (by omega) hi hj
  rw [List.getD_eq_getElem?_getD, List.getD_eq_getElem?_getD, List.getElem?_eq_getElem (show j < l.length by omega), List.getElem?_eq_getElem hi]
  exact this
theorem keptTo_pair {s : DScene} (h : s.ok) (keep : Nat → Bool) : ∀ k, k ≤ s.ss.length → (keptTo s keep k).Pairwise (fun a b => a.Id ≠ b.Id)
  | 0, _ => List.Pairwise.nil
  | k + 1, hk => by
    unfold keptTo
    rw [List.pairwise_append]
    refine ⟨keptTo_pair h keep k (by omega), by split <;> simp, fun a ha b hb => ?_⟩
    split at hb
    · rw [List.mem_singleton] at hb
      obtain ⟨i, h1, h2⟩ := keptTo_ids s keep k a ha
      rw [h2, hb]
      exact (h.2.2.2.2 k (by omega)).2 i h1
    · cases hb
theorem hiddenS_ok {s : DScene} (h : s.ok) : (hiddenS s).ok := by
  have hl := keptTo_len s (keepV s) s.ss.length
  have := h.2.2.2.1
  exact ⟨h.1, h.2.1, h.2.2.1, by show (keptTo s (keepV s) s.ss.length).length ≤ 6; omega, surfsOk_pair (kept_ok h _ _ (Nat.le_refl _)) (keptTo_pair h _ _ (Nat.le_refl _))⟩
theorem hidden_paint {s : DScene} (h : s.ok) : painted (hiddenS s) = painted s := by
  refine fimg_congr h.1.1 (fun x y h1 h2 h3 h4 => ?_)
  have h2' : x < s.W := h2
  have h4' : y < s.H := h4
  have hs : scrG s y.toNat x.toNat = true := (scrG_iff h _ _).2 ⟨by omega, by omega⟩
  have hl := scr_lt h hs
  have := kept_paint h (keep := keepV s) (fun k b a hk hb ha e => by
    unfold keepV
    rw [seen_area h hk]
    have := card_pos hb ha e
    exact decide_eq_true (by omega)) hl.2 hl.1 hs s.ss.length (Nat.le_refl _) (fun i h1 h2 => by omega)
  rw [paintTo_all] at this
  rw [show ((x.toNat : Nat) : Int) = x by omega, show ((y.toNat : Nat) : Int) = y by omega] at this
  exact this
theorem cnt_between (a m : Nat) : ∀ n, a + m ≤ n → cnt (fun x => decide (a ≤ x ∧ x < a + m)) n = m
  | 0, h => by simp [cnt]; omega
  | n + 1, h => by
    unfold cnt
    by_cases e : a + m = n + 1
    · cases m with
      | zero =>
        have h1 : cnt (fun x => decide (a ≤ x ∧ x < a + 0)) n = cnt (fun _ => false) n := cnt_congr n (fun y hy => decide_eq_false (by omega))
        rw [h1, cnt_none]; simp <;> omega
      | succ m =>
        have h1 : cnt (fun x => decide (a ≤ x ∧ x < a + (m + 1))) n = cnt (fun x => decide (a ≤ x ∧ x < a + m)) n := cnt_congr n (fun y hy => decide_eq_decide.2 (by omega))
        rw [h1, cnt_between a m n (by omega), if_pos (by simp; omega)]
    · rw [cnt_between a m n (by omega), if_neg (by simp; omega), Nat.add_zero]
theorem sumN_between (k a : Nat) : ∀ (n m : Nat), a + m ≤ n → sumN (fun y => if a ≤ y ∧ y < a + m then k else 0) n = m * k
  | 0, m, h => by simp [sumN, show m = 0 by omega]
  | n + 1, m, h => by
    unfold sumN
    by_cases e : a + m = n + 1
    · cases m with
      | zero =>
        have h1 : sumN (fun y => if a ≤ y ∧ y < a + 0 then k else 0) n = sumN (fun y => if y < 0 then k else 0) n := sumN_congr n (fun y hy => by rw [if_neg (by omega), if_neg (by omega)])
        rw [h1, sumN_const k n 0 (by omega), if_neg (by omega), Nat.add_zero]
      | succ m =>
        have h1 : sumN (fun y => if a ≤ y ∧ y < a + (m + 1) then k else 0) n = sumN (fun y => if a ≤ y ∧ y < a + m then k else 0) n := sumN_congr n (fun y hy => by
          by_cases h2 : a ≤ y ∧ y < a + m
          · rw [if_pos h2, if_pos (by omega)]
          · rw [if_neg h2, if_neg (by omega)])
        rw [h1, sumN_between k a n m (by omega), if_pos (by omega), Nat.succ_mul]
    · rw [sumN_between k a n m (by omega), if_neg (by omega)]; rfl
theorem card_rect {r : DRect} (h0 : r.ok) (h : 0 ≤ r.X ∧ 0 ≤ r.Y ∧ 0 ≤ r.W ∧ 0 ≤ r.H ∧ r.X + r.W ≤ 16 ∧ r.Y + r.H ≤ 16) : (card (rectG r) : Int) = r.W * r.H := by
  have e : card (rectG r) = r.H.toNat * r.W.toNat := by
    unfold card
    rw [← sumN_between r.W.toNat r.Y.toNat 16 r.H.toNat (by omega)]
    refine sumN_congr 16 (fun y hy => ?_)
    by_cases hh : r.Y.toNat ≤ y ∧ y < r.Y.toNat + r.H.toNat
    · rw [if_pos hh, ← cnt_between r.X.toNat r.W.toNat 16 (by omega)]
      refine cnt_congr 16 (fun x hx => ?_)
      show decide (r.has x y) = _
      refine decide_eq_decide.2 ?_
      unfold DRect.has
      constructor
      · intro hq; omega
      · intro hq; exact ⟨h0, by omega⟩
    · rw [if_neg hh, ← cnt_none 16]
      refine cnt_congr 16 (fun x hx => ?_)
      show decide (r.has x y) = _
      refine decide_eq_false ?_
      unfold DRect.has
      intro hq; omega
  rw [e]
  push_cast
  rw [Int.toNat_of_nonneg (by omega), Int.toNat_of_nonneg (by omega), Int.mul_comm]
theorem inter_scr {s : DScene} (h : s.ok) (q : DRect) (hq : q.ok) : (q.inter (scrR s)).ok ∧ 0 ≤ (q.inter (scrR s)).X ∧ 0 ≤ (q.inter (scrR s)).Y ∧ 0 ≤ (q.inter (scrR s)).W ∧ 0 ≤ (q.inter (scrR s)).H ∧ (q.inter (scrR s)).X + (q.inter (scrR s)).W ≤ 16 ∧ (q.inter (scrR s)).Y + (q.inter (scrR s)).H ≤ 16 := by
  have h1 := h.1
  have h2 := h.2.1
  have hs := scrR_ok h
  have hq' := hq
  unfold DRect.inter
  rw [if_pos ⟨hq, hs⟩]
  unfold DRect.ok at hq'
  unfold scrR
  split
  · unfold DRect.zero DRect.ok; dsimp only; omega
  · unfold DRect.ok; dsimp only at *; omega
theorem seen_cost {s : DScene} (h : s.ok) (k : Nat) : (card (seenG s k) : Int) ≤ ((surfRect (s.ss.getD k default)).inter (scrR s)).W * ((surfRect (s.ss.getD k default)).inter (scrR s)).H := by
  have h1 := inter_scr h (surfRect (s.ss.getD k default)) (surfRect_ok _)
  rw [← card_rect h1.1 h1.2]
  have := card_mono (g := seenG s k) (h := rectG ((surfRect (s.ss.getD k default)).inter (scrR s))) (fun y x hy hx e => by
    have h2 := seenG_in h e
    rw [inter_rect (surfRect_ok _) (scrR_ok h)]
    refine ⟨h2.2, ?_⟩
    have := (scrG_iff h y x).2 h2.1
    exact (holds_iff _ _ _).1 this)
  omega
theorem back_cost {s : DScene} (h : s.ok) : pvN s 0 = s.W * s.H - areaOf (coverOf s (-1)) := by
  have e1 : areaOf (coverOf s (-1)) = (card (coverG s 0) : Int) := by
    unfold coverOf
    rw [if_pos ⟨h, by omega, by omega⟩, areaOf_canon]; rfl
  rw [e1, ← card_scr h]
  show (card ((rectG (scrR s)).without (coverG s 0)) : Int) = _
  have key : card (scrG s) = card ((rectG (scrR s)).without (coverG s 0)) + card (coverG s 0) := by
    have hsub : ∀ y x, coverG s 0 y x = true → scrG s y x = true := fun y x e => by unfold coverG Grid.and at e; rw [Bool.and_eq_true] at e; exact e.2
    unfold card
    have hs : ∀ n, sumN (fun y => cnt (scrG s y) 16) n = sumN (fun y => cnt (((rectG (scrR s)).without (coverG s 0)) y) 16) n + sumN (fun y => cnt (coverG s 0 y) 16) n := by
      intro n
      induction n with
      | zero => rfl
      | succ n ih =>
        unfold sumN
        rw [ih]
        have hc : ∀ m, cnt (scrG s n) m = cnt (((rectG (scrR s)).without (coverG s 0)) n) m + cnt (coverG s 0 n) m := by
          intro m
          induction m with
          | zero => rfl
          | succ m ihm =>
            unfold cnt
            rw [ihm]
            have h3 := hsub n m
            have h4 : ((rectG (scrR s)).without (coverG s 0)) n m = (scrG s n m && !coverG s 0 n m) := rfl
            rw [h4]
            cases e5 : scrG s n m <;> cases e6 : coverG s 0 n m <;> simp_all <;> omega
        rw [hc]; omega
    exact hs 16
  omega
theorem visible_cost {s : DScene} (h : s.ok) : visibleCost s ≤ paintCost s ∧ s.W * s.H - areaOf (coverOf s (-1)) ≤ visibleCost s := by
  unfold visibleCost paintCost
  rw [if_pos h, if_pos h]
  have h1 : ∀ n, pvN s n ≤ costTo s n := by
    intro n
    induction n with
    | zero =>
      rw [back_cost h]
      have := areaOf_bd (coverOf s (-1))
      show _ ≤ s.W * s.H
      omega
    | succ n ih =>
      have := seen_cost h n
      unfold pvN costTo
      have e : (⟨0, 0, s.W, s.H⟩ : DRect) = scrR s := rfl
      rw [e]; omega
  have h2 : ∀ n, pvN s 0 ≤ pvN s n := by
    intro n
    induction n with
    | zero => exact Int.le_refl _
    | succ n ih => unfold pvN; exact Int.le_trans ih (by show pvN s n ≤ pvN s n + _; omega)
  exact ⟨h1 _, by rw [← back_cost h]; exact h2 _⟩
def diffG (a b : DImg) : Grid := fun y x => decide ((x : Int) < a.W ∧ (y : Int) < a.H ∧ a.at x y ≠ b.at x y)
def differenceOf (a b : DImg) : List DRect := if a.ok ∧ b.ok ∧ a.W = b.W ∧ a.H = b.H then canon (diffG a b) else []
theorem differenceOf_ok (a b : DImg) : regionOk (differenceOf a b) := by
  unfold differenceOf; split
  · exact regionOk_canon _
  · exact regionOk_nil
theorem damage_enough {a b : DScene} (ha : a.ok) (hb : b.ok) (hsz : sameSize a b) : areaOf (withoutOf (differenceOf (painted a) (painted b)) (damageOf a b)) = 0 := by
  unfold withoutOf
  rw [if_pos ⟨differenceOf_ok _ _, damageOf_ok _ _⟩, areaOf_canon]
  have : card ((points (differenceOf (painted a) (painted b))).without (points (damageOf a b))) = 0 := card_none (fun y x hy hx => by
    show _ = false
    cases e : ((points (differenceOf (painted a) (painted b))).without (points (damageOf a b))) y x with
    | false => rfl
    | true =>
      exfalso
      unfold Grid.without at e
      rw [Bool.and_eq_true] at e
      have e1 := e.1
      have e2 : points (damageOf a b) y x = false := by simpa using e.2
      unfold differenceOf at e1
      rw [if_pos ⟨painted_ok ha, painted_ok hb, hsz.1, hsz.2⟩, points_canon _ _ _ hy hx] at e1
      unfold diffG at e1
      rw [decide_eq_true_eq] at e1
      obtain ⟨h1, h2, h3⟩ := e1
      have h1' : (x : Int) < a.W := h1
      have h2' : (y : Int) < a.H := h2
      have hs : scrG b y x = true := (scrG_iff hb y x).2 ⟨by rw [← hsz.1]; exact h1', by rw [← hsz.2]; exact h2'⟩
      have h4 := damage_same ha hb hsz hs e2
      have h5 : (painted a).at x y = paintF a x y := fimg_at (paintF a) (w := a.W) (h := a.H) ⟨by omega, h1'⟩ ⟨by omega, h2'⟩
      have h6 : (painted b).at x y = paintF b x y := fimg_at (paintF b) (w := b.W) (h := b.H) ⟨by omega, by rw [← hsz.1]; exact h1'⟩ ⟨by omega, by rw [← hsz.2]; exact h2'⟩
      rw [h5, h6] at h3
      exact h3 h4)
  omega
end Sx
namespace Sx
theorem place_one {w b a k : Int} (hw : 1 ≤ w) (ha : 0 ≤ a ∧ a < w) (h : b * w + a = k) : b = k / w ∧ a = k % w := by
  constructor
  · rw [← h, Int.add_comm, Int.add_mul_ediv_right _ _ (by omega), Int.ediv_eq_zero_of_lt ha.1 ha.2, Int.zero_add]
  · rw [← h, Int.add_comm, Int.add_mul_emod_self_right, Int.emod_eq_of_lt ha.1 ha.2]
def diffTo (a b : DImg) (k : Nat) : Grid := fun y x => decide ((x : Int) < a.W ∧ (y : Int) * a.W + x < k ∧ a.at x y ≠ b.at x y)
theorem diffTo_zero {a b : DImg} (ha : a.ok) : (diffTo a b 0).eqv Grid.none := fun y x _ _ => by
  unfold diffTo Grid.none
  refine decide_eq_false (fun h => ?_)
  have := h.2.1
  have h2 : 0 ≤ (y : Int) * a.W := Int.mul_nonneg (by omega) (by have := ha.1; omega)
  omega
theorem diffTo_all {a b : DImg} (ha : a.ok) : (diffTo a b a.data.length).eqv (diffG a b) := fun y x _ _ => by
  unfold diffTo diffG
  refine decide_eq_decide.2 ?_
  have hl := ha.2.2.1
  have hW := ha.1
  constructor
  · intro h
    refine ⟨h.1, ?_, h.2.2⟩
    have h1 := h.2.1
    rw [hl, Int.mul_comm a.W] at h1
    rcases Int.lt_or_le (y : Int) a.H with h2 | h2
    · exact h2
    · exfalso
      have := Int.mul_le_mul_of_nonneg_right h2 (show 0 ≤ a.W by omega)
      omega
  · intro h
    refine ⟨h.1, ?_, h.2.2⟩
    rw [hl]
    exact (place_lt (w := a.W) (h := a.H) (x := (x : Int)) (y := (y : Int)) ⟨by omega, h.1⟩ ⟨by omega, h.2.1⟩).2.1
theorem at_place {a : DImg} (ha : a.ok) {k : Nat} : a.at ((k : Int) % a.W) ((k : Int) / a.W) = a.data.getD k 0 := by
  have h := mod_row (w := a.W) (q := k) ha.1.1
  unfold DImg.at
  rw [h.2.2.2, Int.toNat_natCast]
theorem diffTo_no {a b : DImg} (ha : a.ok) (hw : b.W = a.W) {k : Nat} (e : a.data.getD k 0 = b.data.getD k 0) (hb : b.ok) : (diffTo a b k).eqv (diffTo a b (k + 1)) := fun y x _ _ => by
  unfold diffTo
  refine decide_eq_decide.2 ⟨fun h => ⟨h.1, by have := h.2.1; push_cast; omega, h.2.2⟩, fun h => ⟨h.1, ?_, h.2.2⟩⟩
  have h1 := h.2.1
  push_cast at h1
  by_cases e2 : (y : Int) * a.W + x = k
  · exfalso
    obtain ⟨e3, e4⟩ := place_one ha.1.1 ⟨by omega, h.1⟩ e2
    refine h.2.2 ?_
    rw [e3, e4, at_place ha, e, ← hw, at_place hb]
  · omega
end Sx
namespace Go.Proofs.Ytpcammhmgleonaa
open Go Sx
theorem diffTo_yes {a b : DImg} (ha : a.ok) (hw : b.W = a.W) {k : Nat} (e : ¬ a.data.getD k 0 = b.data.getD k 0) (hb : b.ok) : (Grid.row (diffTo a b k) ((k : Int) / a.W).toNat (fun i => diffTo a b k ((k : Int) / a.W).toNat i || decide (((k : Int) % a.W).toNat ≤ i ∧ i < ((k : Int) % a.W).toNat + 1))).eqv (diffTo a b (k + 1)) := fun y x _ _ => by
  have hm := mod_row (w := a.W) (q := k) ha.1.1
  unfold Grid.row
  by_cases e2 : y = ((k : Int) / a.W).toNat
  · rw [if_pos e2]
    have ey : (y : Int) = (k : Int) / a.W := by omega
    unfold diffTo
    rw [← Bool.decide_or]
    refine decide_eq_decide.2 ?_
    rw [← e2]
    constructor
    · rintro (h | h)
      · exact ⟨h.1, by have := h.2.1; push_cast; omega, h.2.2⟩
      · have ex : (x : Int) = (k : Int) % a.W := by omega
        refine ⟨by omega, by rw [ey, ex, hm.2.2.2]; push_cast; omega, ?_⟩
        rw [ey, ex, at_place ha, ← hw, at_place hb]; exact e
    · intro h
      have h1 := h.2.1
      push_cast at h1
      by_cases e3 : (y : Int) * a.W + x = k
      · obtain ⟨e4, e5⟩ := place_one ha.1.1 ⟨by omega, h.1⟩ e3
        exact .inr ⟨by omega, by omega⟩
      · exact .inl ⟨h.1, by omega, h.2.2⟩
  · rw [if_neg e2]
    unfold diffTo
    refine decide_eq_decide.2 ⟨fun h => ⟨h.1, by have := h.2.1; push_cast; omega, h.2.2⟩, fun h => ⟨h.1, ?_, h.2.2⟩⟩
    have h1 := h.2.1
    push_cast at h1
    by_cases e3 : (y : Int) * a.W + x = k
    · obtain ⟨e4, e5⟩ := place_one ha.1.1 ⟨by omega, h.1⟩ e3
      omega
    · omega
section
variable {P : Program} {n : Nat} {lo : SMut} {s : World} {E : SEnv} {L : SHeap} {d : Option Tmp} {ty : TypeId} {pos : String} {after : Array Edge} {g0 : Option (Nat × Bool)} {x y : Operand} {xt yt : TypeId}
theorem ov_orBit {f : Nat → Bool} {j : Nat} (hx : sval E x = some (.int .i64 (Sx.bits f 16 : Nat))) (hy : sval E y = some (.int .i64 ((2 ^ j : Nat) : Int))) (hj : j < 16) :
    SOpV P n lo s E L ⟨d, .binOp .or xt x y yt, ty, pos, after, g0⟩ (.int .i64 (Sx.bits (fun i => f i || decide (j ≤ i ∧ i < j + 1)) 16 : Nat)) := by
  refine ov_orG hx ?_
  rw [hy, ← bits_span (X := j) (W := 1) (n := 16) (by omega)]
  simp
end
attribute [local irreducible] Exit.then Exit.inBlock bodyPost OInts canonR rowR points Sx.canon
set_option maxHeartbeats 4000000 in
theorem c_idifferenceOf (a g2 : DImg) (d e : Value) (W : World) (hd : RInts W d a.data) (he : RInts W e g2.data) : SYieldsF Try.prog 14 #[vImg a d, vImg g2 e] (fun u H => OReg u (differenceOf a g2) H) W := by
  have hl := hd.len
  have hd' := hd.form
  have he' := he.form
  obtain ⟨_, _, rfl⟩ := hd'
  obtain ⟨_, _, rfl⟩ := he'
  by_cases hok : a.ok ∧ g2.ok ∧ a.W = g2.W ∧ a.H = g2.H
  · have hdf : differenceOf a g2 = canon (diffG a g2) := by unfold differenceOf; rw [if_pos hok]
    obtain ⟨ha, hbo, hww, hhh⟩ := hok
    have hbl : g2.data.length = a.data.length := by have h1 := ha.2.2.1; have h2 := hbo.2.2.1; rw [hww, hhh] at h1; omega
    have haW := ha.1
    have haH := ha.2.1
    have hal := ha.2.2.1
    have hm := fun (k : Nat) => mod_row (w := a.W) (q := k) ha.1.1
    have hdv := fun (k : Nat) (hk : k < a.data.length) => div_lt (w := a.W) (h := a.H) (q := k) ha.1.1 (by omega)
    rw [hdf, ← canon_congr (diffTo_all (b := g2) ha)]
    (first | apply SYields.mk | apply SYieldsF.mk | skip); refine s_enter Try.func14 rfl Try.ntmps14 rfl ?_
    repeat' (first | exact rfl | (apply kO; (first | exact ov_pure rfl | (apply kOBin; (first | exact aBin | exact (ov_orBit rfl rfl (by have := hm k; omega)))) | (apply kOCall; (first | (apply kCallF; (first | exact (ov_call rfl (fun w hw => c_iimageOk a _ w (riA hw))) | exact (ov_call rfl (fun w hw => c_iimageOk g2 _ w (riA hw))))) | (apply kCallB; (exact aBlt)))) | (apply kOLoad; (first | exact (ov_ldG (diffTo a g2 k) rfl rfl gpA (by have := hm k; have := hdv k (by omega); omega)) | exact aLdF | exact aLdR)) | exact ov_fieldAddr rfl | (apply kOIdx; (first | exact (ov_indexAddrA rfl rfl (by have := hm k; have := hdv k (by omega); omega)) | exact aIdx)) | exact (ov_buildA0) | exact (ov_bit rfl rfl (by have := hm k; omega)) | exact aNew)) | (refine kN ?_; (first | (refine kCall ?_; (first | (refine kWFn 59 ?_; (refine s_callF (fun u H => OReg u (canon (diffTo a g2 k)) H) rfl (fun w hw => c_gregion (diffTo a g2 k) w) rfl (fun u H hu => ?_); obtain ⟨d', rfl, hu⟩ := hu)) | apply s_step)) | (refine kStore ?_; (first | (refine s_setR _ rfl rfl gpA rfl (by have := hm k; have := hdv k (by omega); simp [gl]; omega) ?_) | (refine s_storeS _ rfl rfl gpA rfl (ones_cons (OVs.one (by assumption)) rfl) (by rfl) ?_) | refine s_storeS _ rfl rfl gpA rfl rfl (by rfl) ?_ | refine s_storeS _ rfl rfl gpA rfl (ones_img oiA) (by rfl) ?_)) | refine s_boxS rfl rfl (fun b hb => ?_) | refine s_allocS rfl (fun b hb => ?_) | apply s_step)) | (refine kG ?_; (first | refine s_gyes rfl rfl rfl ?_ | refine s_gno rfl rfl rfl rfl rfl ?_ | ((first | refine s_split_d rfl rfl (fun h => ?_) (fun h => ?_) | refine s_split_n rfl rfl (fun h => ?_) (fun h => ?_)) <;> (try (first | contradiction | (exfalso; omega) | (exfalso; exact absurd ha (by assumption)) | (exfalso; exact absurd hbo (by assumption)) | (exfalso; omega)))))) | (refine kS ?_; (first | refine h_exec rfl ?_ | apply h_take)) | (refine kBack ?_; (refine h_back_last rfl ?_)) | refine l_then ?_ | (refine kC ?_; (first | (refine kReg 8 ?_; refine c_regionSN (SPlan.take 0 (SPlan.take 1 (SPlan.take 2 (SPlan.take 3 (SPlan.take 4 (SPlan.take 5 (SPlan.take 6 (SPlan.take 7 (SPlan.take 8 (SPlan.take 9 (SPlan.take 10 (SPlan.take 11 (SPlan.take 12 (SPlan.run 13 SPlan.done)))))))))))))) (some 13) rfl rfl (by decide +kernel) ?_) | (refine kReg 8 ?_; refine c_regionSN (SPlan.take 0 (SPlan.take 1 (SPlan.take 2 (SPlan.take 3 (SPlan.take 4 (SPlan.take 5 (SPlan.take 6 (SPlan.take 7 (SPlan.take 8 (SPlan.take 9 (SPlan.take 10 (SPlan.take 11 (SPlan.take 12 (SPlan.run 13 SPlan.done)))))))))))))) none rfl rfl (by decide +kernel) ?_) | (refine kLoopR 5 ?_; refine c_loopV (ι := Nat) (fun k => k ≤ a.data.length) (fun k => [(35, .int .i64 (k : Int))]) (fun k => [[(_, srow (gl (diffTo a g2 k)) _)], _, _, _]) (fun k => a.data.length - k) 0 (by omega) rfl (fun _ => rfl) ⟨rfl, trivial⟩ (fun w hw => by rw [gl_congr (diffTo_zero ha)]; exact hw) (fun k hk => ?_)) | refine c_seq ?_ | refine c_regionN rfl ?_ | refine c_ret ?_ | (refine kCond ?_; (first | refine c_cond_t rfl ?_ | ((refine c_cond_d rfl (fun h => ?_) (fun h => ?_)) <;> (try (first | contradiction | (exfalso; omega) | (exfalso; exact absurd ha (by assumption)) | (exfalso; exact absurd hbo (by assumption)) | (exfalso; omega)))))) | refine c_block ?_ | refine c_skip ?_ | refine c_exit ?_)) | (refine kE ?_; (first | refine e_then_r ?_ | refine e_then_n ?_ | refine e_then_x ?_ | refine e_block_n ?_ | refine e_block_x ?_)) | refine l_ends ?_)
    all_goals try simp only [Int.toNat_natCast] at *
    · have hne : ¬ a.data.getD k 0 = g2.data.getD k 0 := by assumption
      have h1 := hm k
      have h2 := hdv k (by omega)
      refine e_round (k + 1) (by omega) ⟨slook_to rfl (vint_to (by push_cast; rfl)), (by repeat' first | exact trivial | refine ⟨rfl, ?_⟩)⟩ (fun w hw => ?_) (by omega)
      have e : (gl (diffTo a g2 k)).set (0 + ((k : Int) / a.W).toNat * 1) (.int .i64 (Sx.bits (fun i => diffTo a g2 k ((k : Int) / a.W).toNat i || decide (((k : Int) % a.W).toNat ≤ i ∧ i < ((k : Int) % a.W).toNat + 1)) 16 : Nat)) = gl (diffTo a g2 (k + 1)) := by
        rw [Nat.zero_add, Nat.mul_one, gl_set _ (by omega), gl_congr (diffTo_yes ha hww.symm hne hbo)]
      rw [← e]; exact hw
    · have heq : a.data.getD k 0 = g2.data.getD k 0 := by omega
      refine e_round (k + 1) (by omega) ⟨slook_to rfl (vint_to (by push_cast; rfl)), (by repeat' first | exact trivial | refine ⟨rfl, ?_⟩)⟩ (fun w hw => ?_) (by omega)
      rw [← gl_congr (diffTo_no ha hww.symm heq hbo)]; exact hw
    · obtain rfl : k = a.data.length := by omega
      exact s_leaveSF rfl rfl rfl fwA (fun w hw => ⟨_, _, rfl, ⟨_, rfl, hu⟩, hw.toFresh (H := H) gpA⟩)
  · have hdf : differenceOf a g2 = [] := by unfold differenceOf; rw [if_neg hok]
    rw [hdf]
    (first | apply SYields.mk | apply SYieldsF.mk | skip); refine s_enter Try.func14 rfl Try.ntmps14 rfl ?_
    repeat' (first | exact rfl | (apply kO; (first | exact ov_pure rfl | (apply kOBin; (first | exact aBin)) | (apply kOCall; (first | (apply kCallF; (first | exact (ov_call rfl (fun w hw => c_iimageOk a _ w (riA hw))) | exact (ov_call rfl (fun w hw => c_iimageOk g2 _ w (riA hw))))) | (apply kCallB; (exact aBlt)))) | (apply kOLoad; (first | exact aLdF | exact aLdR)) | exact ov_fieldAddr rfl | (apply kOIdx; (first | exact aIdx)) | exact aNew)) | (refine kN ?_; (first | (refine kStore ?_; (first | refine s_storeS _ rfl rfl gpA rfl rfl (by rfl) ?_ | refine s_storeS _ rfl rfl gpA rfl (ones_img oiA) (by rfl) ?_)) | refine s_boxS rfl rfl (fun b hb => ?_) | refine s_allocS rfl (fun b hb => ?_) | apply s_step)) | (refine kG ?_; (first | refine s_gyes rfl rfl rfl ?_ | refine s_gno rfl rfl rfl rfl rfl ?_ | ((first | refine s_split_d rfl rfl (fun h => ?_) (fun h => ?_) | refine s_split_n rfl rfl (fun h => ?_) (fun h => ?_)) <;> (try (first | contradiction | (exfalso; omega) | (exfalso; exact absurd ⟨by assumption, by assumption, by omega, by omega⟩ hok)))))) | refine l_then ?_ | (refine kC ?_; (first | refine c_seq ?_ | refine c_regionN rfl ?_ | refine c_ret ?_ | (refine kCond ?_; (first | refine c_cond_t rfl ?_ | ((refine c_cond_d rfl (fun h => ?_) (fun h => ?_)) <;> (try (first | contradiction | (exfalso; omega) | (exfalso; exact absurd ⟨by assumption, by assumption, by omega, by omega⟩ hok)))))) | refine c_block ?_ | refine c_skip ?_ | refine c_exit ?_)) | (refine kE ?_; (first | refine e_then_r ?_ | refine e_then_n ?_ | refine e_then_x ?_ | refine e_block_n ?_ | refine e_block_x ?_)) | refine l_ends ?_)
    all_goals exact s_leaveSF rfl rfl rfl fwA (fun w hw => ⟨_, [], rfl, ⟨_, rfl, OVs.nil⟩, hw.toFresh0⟩)
end Go.Proofs.Ytpcammhmgleonaa
namespace Go.Proofs.Ytpcammhmgleonaa
open Go Sx
attribute [local irreducible] Exit.then Exit.inBlock bodyPost OVs OInts canonR rowR points Sx.canon oriented scaled pictureOf rawPicture
theorem drop_getD (l : List DSurf) (q j : Nat) : (l.drop q).getD j default = l.getD (j + q) default := by
  rw [List.getD_eq_getElem?_getD, List.getD_eq_getElem?_getD, List.getElem?_drop, Nat.add_comm]
theorem hide_yes {l : List DSurf} {q j : Nat} (h : j + q < l.length) (ho : isOpaqueS (l.getD (j + q) default)) : (hideG (l.drop q) j).or (rectG (surfRect (l.getD (j + q) default))) = hideG (l.drop q) (j + 1) := by
  have := hideG_yes (l := l.drop q) (m := j) (by rw [List.length_drop]; omega) (by rw [drop_getD]; exact ho)
  rw [drop_getD] at this; exact this
theorem hide_no {l : List DSurf} {q j : Nat} (h : j + q < l.length) (ho : ¬ (isOpaqueS (l.getD (j + q) default) ∧ (l.getD (j + q) default).Visible = true)) : hideG (l.drop q) (j + 1) = hideG (l.drop q) j :=
  hideG_no (by rw [List.length_drop]; omega) (by rw [drop_getD]; exact ho)
set_option maxHeartbeats 4000000 in
theorem c_screenGrid (s : DScene) (v : Value) (W : World) : SYields Try.prog 58 #[vScene s v] (gval (scrG s)) W := by
  (first | apply SYields.mk | apply SYieldsF.mk | skip); refine s_enter Try.func58 rfl Try.ntmps58 rfl ?_
  repeat' (first | exact rfl | (apply kO; (first | (apply kOCall; ((apply kCallF; (first | exact (ov_call rfl (fun w hw => c_gridOf (scrR s) w)))))) | (apply kOLoad; (exact aLdF)) | exact ov_fieldAddr rfl | exact aNew)) | (refine kN ?_; (first | (refine kStore ?_; (first | refine s_storeS _ rfl rfl gpA rfl rfl (by rfl) ?_ | refine s_storeS _ rfl rfl gpA rfl (ones_img oiA) (by rfl) ?_)) | refine s_boxS rfl rfl (fun b hb => ?_) | refine s_allocS rfl (fun b hb => ?_) | apply s_step)) | refine l_then ?_ | (refine kC ?_; (first | refine c_seq ?_ | refine c_regionN rfl ?_ | refine c_ret ?_)) | (refine kE ?_; (first | refine e_block_y rfl ?_)))
  all_goals (refine kE ?_; refine s_leaveSF rfl rfl rfl fwA (fun w hw => ?_))
  all_goals exact ⟨rfl, hw.below⟩
set_option maxHeartbeats 4000000 in
theorem c_covered (s : DScene) (v : Value) (k : Int) (W : World) (hk : -1 ≤ k ∧ k ≤ (s.ss.length : Int) - 1) (hlen : s.ss.length ≤ 6) (hv : RS eSurf W v s.ss) : SYields Try.prog 105 #[vScene s v, .int .i64 k] (gval (coverG s (k + 1).toNat)) W := by
  have hve := hv
  obtain ⟨ds, hv⟩ := hv
  have hvf := hv.form
  obtain ⟨va, vc, rfl⟩ := hvf
  have hrow := slLow_row (q := (k + 1).toNat) hv.row (by omega) (by decide)
  have h0 : hideG (s.ss.drop (k + 1).toNat) 0 = Grid.none := hideG_zero _
  have hln : (s.ss.length : Int) - (k + 1) = ((s.ss.length - (k + 1).toNat : Nat) : Int) := by omega
  (first | apply SYields.mk | apply SYieldsF.mk | skip); refine s_enter Try.func105 rfl Try.ntmps105 rfl ?_
  repeat' (first | exact rfl | (apply kO; (first | exact ov_pure rfl | (apply kOBin; (first | exact aBin)) | (apply kOCall; (first | (apply kCallF; (first | exact (ov_call rfl (fun w hw => c_screenGrid s _ w)) | exact (ov_call rfl (fun w hw => c_isurfaceRect (s.ss.getD (j + (k + 1).toNat) default) (ds (j + (k + 1).toNat)) w (RInts.keep (hv.rd _ (by omega)) (hw.cells rfl)))) | exact (ov_call rfl (fun w hw => c_iisOpaque (s.ss.getD (j + (k + 1).toNat) default) (ds (j + (k + 1).toNat)) w (RInts.keep (hv.rd _ (by omega)) (hw.cells rfl)))) | exact (ov_call rfl (fun w hw => c_gridOf (surfRect (s.ss.getD (j + (k + 1).toNat) default)) w)) | exact (ov_call rfl (fun w hw => c_gor (hideG (s.ss.drop (k + 1).toNat) j) (rectG (surfRect (s.ss.getD (j + (k + 1).toNat) default))) w)) | exact (ov_call rfl (fun w hw => c_gand (hideG (s.ss.drop (k + 1).toNat) j) (scrG s) w)))) | (apply kCallB; (exact aBlt)))) | (apply kOLoad; (first | exact (ov_ldRZ (fun w hw => hrow.keep (hw.cells rfl)) rfl rfl (by omega) rfl) | exact aLdF)) | exact ov_fieldAddr rfl | (apply kOIdx; (exact (ov_idxR (fun w hw => hrow.keep (hw.cells rfl)) rfl rfl (by omega)))) | exact (ov_buildA0) | (apply kSlice; exact (ov_sliceLow (fun w hw => hv.row.keep (hw.cells rfl)) rfl rfl (by omega))))) | (refine kN ?_; (first | (refine kStore ?_; (first | (refine s_storeS _ rfl rfl gpA rfl (eSurf_ones (RInts.one (hv.rd _ (by omega)))) (by rfl) ?_) | refine s_storeS _ rfl rfl gpA rfl rfl (by rfl) ?_ | refine s_storeS _ rfl rfl gpA rfl (ones_img oiA) (by rfl) ?_)) | refine s_boxS rfl rfl (fun b hb => ?_) | refine s_allocS rfl (fun b hb => ?_) | apply s_step)) | (refine kG ?_; (first | refine s_gyes rfl rfl rfl ?_ | refine s_gno rfl rfl rfl rfl rfl ?_ | ((first | refine s_split_n rfl rfl (fun h => ?_) (fun h => ?_)) <;> (try (first | contradiction | (exfalso; omega)))) | refine s_split rfl rfl (fun h => ?_) (fun h => ?_))) | (refine kS ?_; (first | refine h_exec rfl ?_ | apply h_take)) | (refine kBack ?_; (first | refine h_back_last rfl ?_ | refine h_backN rfl subA ?_)) | refine l_then ?_ | (refine kC ?_; (first | (refine kReg 6 ?_; refine c_regionSN (SPlan.take 0 (SPlan.take 1 (SPlan.run 2 (SPlan.run 3 (SPlan.run 4 (SPlan.run 5 SPlan.done)))))) (some 5) rfl rfl (by decide +kernel) ?_) | (refine kReg 6 ?_; refine c_regionSN (SPlan.take 0 (SPlan.take 1 (SPlan.run 2 (SPlan.run 3 (SPlan.run 4 (SPlan.run 5 SPlan.done)))))) none rfl rfl (by decide +kernel) ?_) | (refine kReg 8 ?_; refine c_regionSN (SPlan.take 0 (SPlan.take 1 (SPlan.run 2 (SPlan.run 3 (SPlan.run 4 SPlan.done))))) (some 4) rfl rfl (by decide +kernel) ?_) | (refine kReg 8 ?_; refine c_regionSN (SPlan.take 0 (SPlan.take 1 (SPlan.run 2 (SPlan.run 3 (SPlan.run 4 SPlan.done))))) none rfl rfl (by decide +kernel) ?_) | (refine c_loopV (ι := Nat) (fun j => j ≤ s.ss.length - (k + 1).toNat) (fun j => [(15, .int .i64 (j : Int))]) (fun j => [[(_, srow (gl (hideG (s.ss.drop (k + 1).toNat) j)) _)], _, _]) (fun j => s.ss.length - (k + 1).toNat - j) 0 (by omega) rfl (fun _ => rfl) ⟨rfl, trivial⟩ (fun w hw => by rw [h0]; exact hw) (fun j hj => ?_)) | refine c_seq ?_ | refine c_regionN rfl ?_ | refine c_ret ?_ | (refine kCond ?_; (first | refine c_cond_f rfl ?_ | ((refine c_cond_d rfl (fun h => ?_) (fun h => ?_)) <;> (try (first | contradiction | (exfalso; omega)))))) | refine c_block ?_ | refine c_skip ?_ | refine c_exit ?_)) | (refine kE ?_; (first | refine e_then_n ?_ | refine e_then_x ?_ | refine e_block_n ?_ | refine e_block_x ?_)) | refine l_ends ?_)
  all_goals first
    | exact e_round (j + 1) (by omega) ⟨slook_to rfl (vint_to (by push_cast; rfl)), (by repeat' first | exact trivial | refine ⟨rfl, ?_⟩)⟩ (fun w hw => by rw [← hide_yes (by omega) (by assumption)]; exact hw.sub (selO_sub [false, true, true, true] _ _ rfl)) (by omega)
    | exact e_round (j + 1) (by omega) ⟨slook_to rfl (vint_to (by push_cast; rfl)), (by repeat' first | exact trivial | refine ⟨rfl, ?_⟩)⟩ (fun w hw => by rw [hide_no (by omega) (fun e => by first | exact absurd e.1 (by assumption) | exact absurd e.2 (by assumption) | (have e2 := e.2; rw [show (s.ss.getD (j + (k + 1).toNat) default).Visible = false from by assumption] at e2; exact absurd e2 Bool.false_ne_true))]; exact hw.sub (selO_sub [false, true, true, true] _ _ rfl)) (by omega)
    | (refine s_leaveSF rfl rfl rfl fwA (fun w hw => ⟨?_, hw.below⟩)
       show Ending.returned (gval ((hideG (s.ss.drop (k + 1).toNat) j).and (scrG s))) = _
       rw [← coverG_hide s (k + 1).toNat (m := j) (by rw [List.length_drop]; omega)])
set_option maxHeartbeats 4000000 in
theorem c_seen (s : DScene) (v : Value) (k : Int) (W : World) (hk : 0 ≤ k ∧ k ≤ (s.ss.length : Int) - 1) (hlen : s.ss.length ≤ 6) (hv : RS eSurf W v s.ss) : SYields Try.prog 100 #[vScene s v, .int .i64 k] (gval (seenG s k.toNat)) W := by
  have hve := hv
  obtain ⟨ds, hv⟩ := hv
  have hvf := hv.form
  obtain ⟨va, vc, rfl⟩ := hvf
  have hkq : (k + 1).toNat = k.toNat + 1 := by omega
  (first | apply SYields.mk | apply SYieldsF.mk | skip); refine s_enter Try.func100 rfl Try.ntmps100 rfl ?_
  repeat' (first | exact rfl | (apply kO; (first | exact ov_pure rfl | (apply kOCall; ((apply kCallF; (first | exact (ov_call rfl (fun w hw => c_screenGrid s _ w)) | exact (ov_call rfl (fun w hw => c_covered s _ k w (by omega) hlen (hve.keep (hw.cells rfl)))) | exact (ov_call rfl (fun w hw => c_isurfaceRect (s.ss.getD k.toNat default) (ds k.toNat) w (RInts.keep (hv.rd _ (by omega)) (hw.cells rfl)))) | exact (ov_call rfl (fun w hw => c_gridOf (surfRect (s.ss.getD k.toNat default)) w)) | exact (ov_call rfl (fun w hw => c_gand (rectG (surfRect (s.ss.getD k.toNat default))) (scrG s) w)) | exact (ov_call rfl (fun w hw => c_gwithout ((rectG (surfRect (s.ss.getD k.toNat default))).and (scrG s)) (coverG s (k + 1).toNat) w)))))) | (apply kOLoad; (first | exact aLdF | exact aLdR)) | exact ov_fieldAddr rfl | (apply kOIdx; (first | exact aIdx)))) | (refine kN ?_; (first | (refine kStore ?_; (first | refine s_storeS _ rfl rfl gpA rfl rfl (by rfl) ?_ | refine s_storeS _ rfl rfl gpA rfl (ones_img oiA) (by rfl) ?_)) | refine s_boxS rfl rfl (fun b hb => ?_) | refine s_allocS rfl (fun b hb => ?_) | apply s_step)) | (refine kS ?_; (first | refine h_exec rfl ?_ | apply h_take)) | (refine kBack ?_; (first | refine h_back_last rfl ?_ | refine h_backN rfl subA ?_)) | refine l_then ?_ | (refine kC ?_; (first | (refine kReg 1 ?_; refine c_regionSN (SPlan.take 0 (SPlan.take 1 (SPlan.take 2 (SPlan.take 3 (SPlan.take 4 (SPlan.take 7 (SPlan.take 10 (SPlan.take 11 (SPlan.run 5 (SPlan.run 6 (SPlan.run 8 (SPlan.run 9 (SPlan.run 12 (SPlan.run 13 (SPlan.run 14 SPlan.done))))))))))))))) (some 14) rfl rfl (by decide +kernel) ?_) | (refine kReg 1 ?_; refine c_regionSN (SPlan.take 0 (SPlan.take 1 (SPlan.take 2 (SPlan.take 3 (SPlan.take 4 (SPlan.take 7 (SPlan.take 10 (SPlan.take 11 (SPlan.run 5 (SPlan.run 6 (SPlan.run 8 (SPlan.run 9 (SPlan.run 12 (SPlan.run 13 (SPlan.run 14 SPlan.done))))))))))))))) none rfl rfl (by decide +kernel) ?_) | refine c_seq ?_ | refine c_regionN rfl ?_ | refine c_ret ?_)) | (refine kE ?_; (refine e_then_n ?_)))
  all_goals (refine kE ?_; refine s_leaveSF rfl rfl rfl fwA (fun w hw => ?_))
  all_goals exact ⟨by unfold seenG; rw [← hkq], hw.below⟩
set_option maxHeartbeats 4000000 in
theorem c_ivisibleOf (s : DScene) (v : Value) (k : Int) (W : World) (hv : RS eSurf W v s.ss) : SYieldsF Try.prog 46 #[vScene s v, .int .i64 k] (fun u H => OReg u (visibleOf s k) H) W := by
  have hlr := (hv.choose_spec).row.len
  have hvf := hv.form
  obtain ⟨va, vc, rfl⟩ := hvf
  by_cases hok : s.ok ∧ (0 ≤ k ∧ k ≤ (s.ss.length : Int) - 1)
  · have hlen := hok.1.2.2.2.1
    have hj0 : visibleOf s k = canon (seenG s k.toNat) := by unfold visibleOf; rw [if_pos hok]
    rw [hj0]
    (first | apply SYields.mk | apply SYieldsF.mk | skip); refine s_enter Try.func46 rfl Try.ntmps46 rfl ?_
    repeat' (first | exact rfl | (apply kO; (first | exact ov_pure rfl | (apply kOBin; (first | exact aBin)) | (apply kOCall; (first | (apply kCallF; (first | exact (ov_call rfl (fun w hw => c_isceneOk _ _ w (hv.keep (hw.cells rfl)))) | exact (ov_call rfl (fun w hw => c_within _ _ _ w)) | exact (ov_call rfl (fun w hw => c_seen s _ k w hok.2 hlen (hv.keep (hw.cells rfl)))))) | (apply kCallB; (exact aBlt)))) | (apply kOLoad; (exact aLdF)) | exact ov_fieldAddr rfl | exact aNew)) | (refine kN ?_; (first | (refine kCall ?_; (first | (refine kWFn 59 ?_; (refine s_callF (fun u H => OReg u (canon (seenG s k.toNat)) H) rfl (fun w hw => c_gregion (seenG s k.toNat) w) rfl (fun u H hu => ?_); obtain ⟨d', rfl, hu⟩ := hu)) | apply s_step)) | (refine kStore ?_; (first | (refine s_storeS _ rfl rfl gpA rfl (ones_cons (OVs.one (by assumption)) rfl) (by rfl) ?_) | refine s_storeS _ rfl rfl gpA rfl rfl (by rfl) ?_ | refine s_storeS _ rfl rfl gpA rfl (ones_img oiA) (by rfl) ?_)) | refine s_boxS rfl rfl (fun b hb => ?_) | refine s_allocS rfl (fun b hb => ?_) | apply s_step)) | (refine kG ?_; (first | refine s_gyes rfl rfl rfl ?_ | refine s_gno rfl rfl rfl rfl rfl ?_ | ((refine s_split_n rfl rfl (fun h => ?_) (fun h => ?_)) <;> (try (first | contradiction | (exfalso; omega) | (exfalso; exact absurd hok.1 (by assumption)) | (exfalso; exact absurd hok.2 (by assumption))))))) | refine l_then ?_ | (refine kC ?_; (first | refine c_seq ?_ | refine c_regionN rfl ?_ | refine c_ret ?_ | (refine kCond ?_; (first | refine c_cond_t rfl ?_ | ((refine c_cond_n rfl (fun h => ?_) (fun h => ?_)) <;> (try (first | contradiction | (exfalso; omega) | (exfalso; exact absurd hok.1 (by assumption)) | (exfalso; exact absurd hok.2 (by assumption))))))) | refine c_skip ?_)) | (refine kE ?_; (first | refine e_then_r ?_ | refine e_then_n ?_)))
    all_goals (refine kE ?_; refine s_leaveSF rfl rfl rfl fwA (fun w hw => ?_))
    all_goals exact ⟨_, _, rfl, ⟨_, rfl, hu⟩, hw.toFresh (H := H) gpA⟩
  · have hj0 : visibleOf s k = [] := by unfold visibleOf; rw [if_neg hok]
    rw [hj0]
    (first | apply SYields.mk | apply SYieldsF.mk | skip); refine s_enter Try.func46 rfl Try.ntmps46 rfl ?_
    repeat' (first | exact rfl | (apply kO; (first | exact ov_pure rfl | (apply kOBin; (first | exact aBin)) | (apply kOCall; (first | (apply kCallF; (first | exact (ov_call rfl (fun w hw => c_isceneOk _ _ w (hv.keep (hw.cells rfl)))) | exact (ov_call rfl (fun w hw => c_within _ _ _ w)))) | (apply kCallB; (exact aBlt)))) | (apply kOLoad; (exact aLdF)) | exact ov_fieldAddr rfl | exact aNew)) | (refine kN ?_; (first | (refine kStore ?_; (first | refine s_storeS _ rfl rfl gpA rfl rfl (by rfl) ?_ | refine s_storeS _ rfl rfl gpA rfl (ones_img oiA) (by rfl) ?_)) | refine s_boxS rfl rfl (fun b hb => ?_) | refine s_allocS rfl (fun b hb => ?_) | apply s_step)) | (refine kG ?_; (first | refine s_gyes rfl rfl rfl ?_ | refine s_gno rfl rfl rfl rfl rfl ?_ | ((refine s_split_n rfl rfl (fun h => ?_) (fun h => ?_)) <;> (try (first | contradiction | (exfalso; omega) | (exfalso; exact absurd ⟨by assumption, by assumption⟩ hok)))))) | refine l_then ?_ | (refine kC ?_; (first | refine c_seq ?_ | refine c_regionN rfl ?_ | refine c_ret ?_ | (refine kCond ?_; (first | refine c_cond_t rfl ?_ | ((refine c_cond_n rfl (fun h => ?_) (fun h => ?_)) <;> (try (first | contradiction | (exfalso; omega) | (exfalso; exact absurd ⟨by assumption, by assumption⟩ hok)))))) | refine c_skip ?_)) | (refine kE ?_; (first | refine e_then_r ?_ | refine e_then_n ?_)))
    all_goals (refine kE ?_; refine s_leaveSF rfl rfl rfl fwA (fun w hw => ?_))
    all_goals exact ⟨_, [], rfl, ⟨_, rfl, OVs.nil⟩, hw.toFresh0⟩
end Go.Proofs.Ytpcammhmgleonaa
namespace Go.Proofs.Ytpcammhmgleonaa
open Go Sx
attribute [local irreducible] Exit.then Exit.inBlock bodyPost OVs OInts canonR rowR points Sx.canon oriented scaled pictureOf rawPicture accG damA damB damC dB dC surfaceIndex
set_option maxHeartbeats 4000000 in
theorem c_idamageOf (a t : DScene) (va vb : Value) (W : World) (hva : RS eSurf W va a.ss) (hvb : RS eSurf W vb t.ss) : SYieldsF Try.prog 13 #[vScene a va, vScene t vb] (fun u H => OReg u (damageOf a t) H) W := by
  have hae := hva
  have hbe := hvb
  obtain ⟨da, hva⟩ := hva
  obtain ⟨db, hvb⟩ := hvb
  have haf := hva.form
  have hbf := hvb.form
  obtain ⟨a1, a2, rfl⟩ := haf
  obtain ⟨b1, b2, rfl⟩ := hbf
  by_cases hok : a.ok ∧ t.ok
  · by_cases hsz : sameSize a t ∧ a.Back = t.Back
    · rw [damageOf_near hok.1 hok.2 hsz]
      have hsz' : a.W = t.W ∧ a.H = t.H ∧ a.Back = t.Back := ⟨hsz.1.1, hsz.1.2, hsz.2⟩
      have hla := hok.1.2.2.2.1
      have hlb := hok.2.2.2.2.1
      have hia := fun j => index_lt a.ss (t.ss.getD j default).Id
      have hib := fun (j : Nat) => index_lt t.ss (a.ss.getD ((j : Int)).toNat eSurf.dflt).Id
      have hz1 : accG (damA a t) 0 = Grid.none := by unfold accG; rfl
      have hroom : t.ss.length ≤ b2 := hvb.row.room
      have hrow := fun (i : Nat) (hi : i ≤ t.ss.length) => rrow_hi hvb.row hi
      (first | apply SYields.mk | apply SYieldsF.mk | skip); refine s_enter Try.func13 rfl Try.ntmps13 rfl ?_
      repeat' (first | exact rfl | (apply kO; (first | exact ov_pure rfl | (apply kOBin; (first | exact aBin)) | (apply kOCall; (first | (apply kCallF; (first | exact (ov_call rfl (fun w hw => c_isceneOk a _ w (hae.keep (hw.cells rfl)))) | exact (ov_call rfl (fun w hw => c_isceneOk t _ w (hbe.keep (hw.cells rfl)))) | exact (ov_call rfl (fun w hw => c_screenGrid t _ w)) | exact (ov_call rfl (fun w hw => c_isurfaceIndex a _ _ w (hae.keep (hw.cells rfl)))) | exact (ov_call rfl (fun w hw => c_isurfaceIndex t _ _ w (hbe.keep (hw.cells rfl)))) | exact (ov_call rfl (fun w hw => c_isurfaceRect (a.ss.getD j default) (da j) w (RInts.keep (hva.rd _ (by omega)) (hw.cells rfl)))) | exact (ov_call rfl (fun w hw => c_isurfaceRect (t.ss.getD (surfaceIndex t.ss (a.ss.getD j default).Id).toNat default) (db (surfaceIndex t.ss (a.ss.getD j default).Id).toNat) w (RInts.keep (hvb.rd _ (show (surfaceIndex t.ss (a.ss.getD ((j : Int)).toNat eSurf.dflt).Id).toNat < t.ss.length from by have := hib j; omega)) (hw.cells rfl)))) | exact (ov_call rfl (fun w hw => c_isameSurface (a.ss.getD j default) (t.ss.getD (surfaceIndex t.ss (a.ss.getD j default).Id).toNat default) (da j) (db (surfaceIndex t.ss (a.ss.getD j default).Id).toNat) w (RInts.keep (hva.rd _ (by omega)) (hw.cells rfl)) (RInts.keep (hvb.rd _ (show (surfaceIndex t.ss (a.ss.getD ((j : Int)).toNat eSurf.dflt).Id).toNat < t.ss.length from by have := hib j; omega)) (hw.cells rfl)))) | exact (ov_call rfl (fun w hw => c_isurfaceRect (t.ss.getD i default) (db i) w (RInts.keep (hvb.rd _ (by omega)) (hw.cells rfl)))) | exact (ov_call rfl (fun w hw => c_isurfaceRect (t.ss.getD k default) (db k) w (RInts.keep (hvb.rd _ (by omega)) (hw.cells rfl)))) | exact (ov_call rfl (fun w hw => c_iintersect (surfRect (t.ss.getD i default)) (surfRect (t.ss.getD k default)) w)) | exact (ov_call rfl (fun w hw => c_gridOf (surfRect (a.ss.getD j default)) w)) | exact (ov_call rfl (fun w hw => c_gridOf (surfRect (t.ss.getD (surfaceIndex t.ss (a.ss.getD j default).Id).toNat default)) w)) | exact (ov_call rfl (fun w hw => c_gridOf (surfRect (t.ss.getD i default)) w)) | exact (ov_call rfl (fun w hw => c_gridOf ((surfRect (t.ss.getD i default)).inter (surfRect (t.ss.getD k default))) w)) | exact (ov_call rfl (fun w hw => c_gor (accG (damA a t) j) (rectG (surfRect (a.ss.getD j default))) w)) | exact (ov_call rfl (fun w hw => c_gor ((accG (damA a t) j).or (rectG (surfRect (a.ss.getD j default)))) (rectG (surfRect (t.ss.getD (surfaceIndex t.ss (a.ss.getD j default).Id).toNat default))) w)) | exact (ov_call rfl (fun w hw => c_gor (dB a t i) (rectG (surfRect (t.ss.getD i default))) w)) | exact (ov_call rfl (fun w hw => c_gor (dC a t i k) (rectG ((surfRect (t.ss.getD i default)).inter (surfRect (t.ss.getD k default)))) w)) | exact (ov_call rfl (fun w hw => c_gand (dB a t i) (scrG t) w)))) | (apply kCallB; (exact aBlt)))) | (apply kOLoad; (first | exact (ov_ldRZ (fun w hw => hva.row.keep (hw.cells rfl)) rfl rfl (by omega) rfl) | exact (ov_ldRZ (fun w hw => hvb.row.keep (hw.cells rfl)) rfl rfl (by omega) rfl) | exact (ov_ldRZ (fun w hw => hvb.row.keep (hw.cells rfl)) rfl rfl (by have := hib j; omega) rfl) | exact (ov_ldRZ (fun w hw => (hrow i (by omega)).keep (hw.cells rfl)) rfl rfl (by omega) rfl) | exact aLdF)) | exact ov_fieldAddr rfl | (apply kOIdx; (first | exact (ov_idxR (fun w hw => hva.row.keep (hw.cells rfl)) rfl rfl (by omega)) | exact (ov_idxR (fun w hw => hvb.row.keep (hw.cells rfl)) rfl rfl (by omega)) | exact (ov_idxR (fun w hw => hvb.row.keep (hw.cells rfl)) rfl rfl (by have := hib j; omega)) | exact (ov_idxR (fun w hw => (hrow i (by omega)).keep (hw.cells rfl)) rfl rfl (by omega)))) | exact (ov_buildA0) | (apply kSlice; exact (ov_sliceHi rfl rfl (by omega))) | exact aNew)) | (refine kN ?_; (first | (refine kCall ?_; (first | (refine kWFn 59 ?_; (refine s_callF (fun u H => OReg u (canon ((dB a t i).and (scrG t))) H) rfl (fun w hw => c_gregion ((dB a t i).and (scrG t)) w) rfl (fun u H hu => ?_); obtain ⟨d', rfl, hu⟩ := hu)) | apply s_step)) | (refine kStore ?_; (first | (refine s_storeS _ rfl rfl gpA rfl (eSurf_ones (RInts.one (hva.rd _ (by omega)))) (by rfl) ?_) | (refine s_storeS _ rfl rfl gpA rfl (eSurf_ones (RInts.one (hvb.rd _ (by omega)))) (by rfl) ?_) | (refine s_storeS _ rfl rfl gpA rfl (ones_cons (OVs.one (by assumption)) rfl) (by rfl) ?_) | refine s_storeS _ rfl rfl gpA rfl rfl (by rfl) ?_ | refine s_storeS _ rfl rfl gpA rfl (ones_img oiA) (by rfl) ?_)) | refine s_boxS rfl rfl (fun b hb => ?_) | refine s_allocS rfl (fun b hb => ?_) | apply s_step)) | (refine kG ?_; (first | refine s_gyes rfl rfl rfl ?_ | refine s_gno rfl rfl rfl rfl rfl ?_ | ((first | refine s_split_d rfl rfl (fun h => ?_) (fun h => ?_) | refine s_split_n rfl rfl (fun h => ?_) (fun h => ?_)) <;> (try (first | contradiction | (exfalso; omega) | (exfalso; exact absurd hok.1 (by assumption)) | (exfalso; exact absurd hok.2 (by assumption)) | (exfalso; omega)))))) | (refine kS ?_; (first | refine h_exec rfl ?_ | apply h_take)) | (refine kBack ?_; (first | refine h_back_last rfl ?_ | refine h_backN rfl subA ?_)) | refine l_then ?_ | (refine kC ?_; (first | (refine kReg 12 ?_; refine c_regionSN (SPlan.take 0 (SPlan.take 1 (SPlan.run 2 (SPlan.run 3 (SPlan.run 4 (SPlan.run 5 SPlan.done)))))) (some 5) rfl rfl (by decide +kernel) ?_) | (refine kReg 12 ?_; refine c_regionSN (SPlan.take 0 (SPlan.take 1 (SPlan.run 2 (SPlan.run 3 (SPlan.run 4 (SPlan.run 5 SPlan.done)))))) none rfl rfl (by decide +kernel) ?_) | (refine kReg 14 ?_; refine c_regionSN (SPlan.take 0 (SPlan.take 1 (SPlan.take 5 (SPlan.take 6 (SPlan.take 7 (SPlan.take 8 (SPlan.take 9 (SPlan.run 2 (SPlan.run 3 (SPlan.run 4 (SPlan.run 10 (SPlan.run 11 (SPlan.run 12 (SPlan.run 13 SPlan.done)))))))))))))) (some 13) rfl rfl (by decide +kernel) ?_) | (refine kReg 14 ?_; refine c_regionSN (SPlan.take 0 (SPlan.take 1 (SPlan.take 5 (SPlan.take 6 (SPlan.take 7 (SPlan.take 8 (SPlan.take 9 (SPlan.run 2 (SPlan.run 3 (SPlan.run 4 (SPlan.run 10 (SPlan.run 11 (SPlan.run 12 (SPlan.run 13 SPlan.done)))))))))))))) none rfl rfl (by decide +kernel) ?_) | (refine kReg 21 ?_; refine c_regionSN (SPlan.take 0 (SPlan.take 1 (SPlan.run 2 (SPlan.run 3 (SPlan.run 4 (SPlan.run 5 SPlan.done)))))) (some 5) rfl rfl (by decide +kernel) ?_) | (refine kReg 21 ?_; refine c_regionSN (SPlan.take 0 (SPlan.take 1 (SPlan.run 2 (SPlan.run 3 (SPlan.run 4 (SPlan.run 5 SPlan.done)))))) none rfl rfl (by decide +kernel) ?_) | (refine kReg 27 ?_; refine c_regionSN (SPlan.take 0 (SPlan.take 1 (SPlan.take 3 (SPlan.run 2 (SPlan.run 4 (SPlan.run 5 (SPlan.run 6 (SPlan.run 7 (SPlan.run 8 SPlan.done))))))))) (some 8) rfl rfl (by decide +kernel) ?_) | (refine kReg 27 ?_; refine c_regionSN (SPlan.take 0 (SPlan.take 1 (SPlan.take 3 (SPlan.run 2 (SPlan.run 4 (SPlan.run 5 (SPlan.run 6 (SPlan.run 7 (SPlan.run 8 SPlan.done))))))))) none rfl rfl (by decide +kernel) ?_) | (refine kLoopR 8 ?_; refine c_loopV (ι := Nat) (fun j => j ≤ a.ss.length) (fun j => [(52, .int .i64 (j : Int))]) (fun j => [[(_, srow (gl (accG (damA a t) j)) _)], _, _, _, _]) (fun j => a.ss.length - j) 0 (by omega) rfl (fun _ => rfl) ⟨rfl, trivial⟩ (fun w hw => by rw [hz1]; exact hw) (fun j hj => ?_)) | (refine kLoopR 17 ?_; refine c_loopV (ι := Nat) (fun i => i ≤ t.ss.length) (fun i => [(92, .int .i64 (i : Int))]) (fun i => [[(_, srow (gl (dB a t i)) _)], _, _, _, _]) (fun i => t.ss.length - i) 0 (by omega) rfl (fun _ => rfl) ⟨rfl, trivial⟩ (fun w hw => by rw [dB_zero, show a.ss.length = j by omega]; exact hw) (fun i hi => ?_)) | (refine kLoopR 23 ?_; refine c_loopV (ι := Nat) (fun k => k ≤ i) (fun k => [(113, .int .i64 (k : Int))]) (fun k => [_, [(_, srow (gl (dC a t i k)) _)], _, _, _, _]) (fun k => i - k) 0 (by omega) rfl (fun _ => rfl) ⟨rfl, trivial⟩ (fun w hw => by rw [dC_zero]; exact hw) (fun k hk => ?_)) | refine c_seq ?_ | refine c_regionN rfl ?_ | refine c_ret ?_ | (refine kCond ?_; (first | refine c_cond_t rfl ?_ | ((first | refine c_cond_d rfl (fun h => ?_) (fun h => ?_) | refine c_cond_n rfl (fun h => ?_) (fun h => ?_)) <;> (try (first | contradiction | (exfalso; omega) | (exfalso; exact absurd hok.1 (by assumption)) | (exfalso; exact absurd hok.2 (by assumption)) | (exfalso; omega)))))) | refine c_block ?_ | refine c_skip ?_ | refine c_exit ?_ | refine c_regionQN rfl rfl (by decide +kernel) ?_)) | apply s_stepQ | refine lQ_then ?_ | (refine kE ?_; (first | refine e_then_r ?_ | refine e_then_n ?_ | refine e_then_x ?_ | refine e_block_n ?_ | refine e_block_x ?_)) | refine l_ends ?_)
      · have h' : surfaceIndex t.ss (a.ss.getD j default).Id < 0 := by assumption
        exact e_round (j + 1) (by omega) ⟨slook_to rfl (vint_to (by push_cast; rfl)), (by repeat' first | exact trivial | refine ⟨rfl, ?_⟩)⟩ (fun w hw => by rw [← damA_neg h']; exact hw.sub (selO_sub [false, true, true, true, true, true] _ _ rfl)) (by omega)
      · have h' : ¬ surfaceIndex t.ss (a.ss.getD j default).Id < 0 := by assumption
        have h2 : ¬ a.ss.getD j default = t.ss.getD (surfaceIndex t.ss (a.ss.getD j default).Id).toNat default := by assumption
        exact e_round (j + 1) (by omega) ⟨slook_to rfl (vint_to (by push_cast; rfl)), (by repeat' first | exact trivial | refine ⟨rfl, ?_⟩)⟩ (fun w hw => by rw [← damA_diff h' h2]; exact hw.sub (selO_sub [false, true, true, true, true, true] _ _ rfl)) (by omega)
      · have h' : ¬ surfaceIndex t.ss (a.ss.getD j default).Id < 0 := by assumption
        have h2 : a.ss.getD j default = t.ss.getD (surfaceIndex t.ss (a.ss.getD j default).Id).toNat default := by assumption
        exact e_round (j + 1) (by omega) ⟨slook_to rfl (vint_to (by push_cast; rfl)), (by repeat' first | exact trivial | refine ⟨rfl, ?_⟩)⟩ (fun w hw => by rw [damA_same h' h2]; exact hw.sub (selO_sub [false, true, true, true, true, true] _ _ rfl)) (by omega)
      · have h' : surfaceIndex a.ss (t.ss.getD i default).Id < 0 := by assumption
        exact e_round (i + 1) (by omega) ⟨slook_to rfl (vint_to (by push_cast; rfl)), (by repeat' first | exact trivial | refine ⟨rfl, ?_⟩)⟩ (fun w hw => by rw [← dB_neg h']; exact hw.sub (selO_sub [false, true, true, true, true, true] _ _ rfl)) (by omega)
      · have h' : surfaceIndex a.ss (t.ss.getD i default).Id < surfaceIndex a.ss (t.ss.getD k default).Id := by assumption
        exact e_round (k + 1) (by omega) ⟨slook_to rfl (vint_to (by push_cast; rfl)), (by repeat' first | exact trivial | refine ⟨rfl, ?_⟩)⟩ (fun w hw => by rw [← dC_yes h']; exact hw.sub (selO_sub [false, true, true, true, true, true, true] _ _ rfl)) (by omega)
      · have h' : ¬ surfaceIndex a.ss (t.ss.getD i default).Id < surfaceIndex a.ss (t.ss.getD k default).Id := by assumption
        exact e_round (k + 1) (by omega) ⟨slook_to rfl (vint_to (by push_cast; rfl)), (by repeat' first | exact trivial | refine ⟨rfl, ?_⟩)⟩ (fun w hw => by rw [dC_no h']; exact hw.sub (selO_sub [false, true, true, true, true, true, true] _ _ rfl)) (by omega)
      · have h' : ¬ surfaceIndex a.ss (t.ss.getD i default).Id < 0 := by assumption
        have h2 : dC a t i k = dB a t (i + 1) := by rw [show k = i by omega]; unfold dC; exact dB_in h'
        exact e_round (i + 1) (by omega) ⟨slook_to rfl (vint_to (by push_cast; rfl)), (by repeat' first | exact trivial | refine ⟨rfl, ?_⟩)⟩ (fun w hw => by rw [← h2]; exact hw.sub (selO_sub [false, true, true, true, true, true] _ _ rfl)) (by omega)
      · have e : dB a t i = damG a t := by rw [show i = t.ss.length by omega]; exact dB_all hok.1 hok.2
        rw [e] at hu
        exact s_leaveSF rfl rfl rfl fwA (fun w hw => ⟨_, _, rfl, ⟨_, rfl, hu⟩, hw.toFresh (H := H) gpA⟩)
    · rw [damageOf_far hok.1 hok.2 hsz]
      have hsz' : ¬ (a.W = t.W ∧ a.H = t.H ∧ a.Back = t.Back) := fun e => hsz ⟨⟨e.1, e.2.1⟩, e.2.2⟩
      (first | apply SYields.mk | apply SYieldsF.mk | skip); refine s_enter Try.func13 rfl Try.ntmps13 rfl ?_
      repeat' (first | exact rfl | (apply kO; (first | exact ov_pure rfl | (apply kOBin; (first | exact aBin)) | (apply kOCall; (first | (apply kCallF; (first | exact (ov_call rfl (fun w hw => c_isceneOk a _ w (hae.keep (hw.cells rfl)))) | exact (ov_call rfl (fun w hw => c_isceneOk t _ w (hbe.keep (hw.cells rfl)))) | exact (ov_call rfl (fun w hw => c_screenGrid t _ w)))) | (apply kCallB; (exact aBlt)))) | (apply kOLoad; (exact aLdF)) | exact ov_fieldAddr rfl | (apply kOIdx; (first | exact aIdx)) | exact (ov_buildA0) | exact aNew)) | (refine kN ?_; (first | (refine kCall ?_; (first | (refine kWFn 59 ?_; (refine s_callF (fun u H => OReg u (canon (scrG t)) H) rfl (fun w hw => c_gregion (scrG t) w) rfl (fun u H hu => ?_); obtain ⟨d', rfl, hu⟩ := hu)) | apply s_step)) | (refine kStore ?_; (first | (refine s_storeS _ rfl rfl gpA rfl (ones_cons (OVs.one (by assumption)) rfl) (by rfl) ?_) | refine s_storeS _ rfl rfl gpA rfl rfl (by rfl) ?_ | refine s_storeS _ rfl rfl gpA rfl (ones_img oiA) (by rfl) ?_)) | refine s_boxS rfl rfl (fun b hb => ?_) | refine s_allocS rfl (fun b hb => ?_) | apply s_step)) | (refine kG ?_; (first | refine s_gyes rfl rfl rfl ?_ | refine s_gno rfl rfl rfl rfl rfl ?_ | ((first | refine s_split_d rfl rfl (fun h => ?_) (fun h => ?_) | refine s_split_n rfl rfl (fun h => ?_) (fun h => ?_)) <;> (try (first | contradiction | (exfalso; omega) | (exfalso; exact absurd hok.1 (by assumption)) | (exfalso; exact absurd hok.2 (by assumption)) | (exfalso; omega)))))) | (refine kS ?_; (first | refine h_exec rfl ?_ | apply h_take)) | (refine kBack ?_; (first | refine h_back_last rfl ?_ | refine h_backN rfl subA ?_)) | refine l_then ?_ | (refine kC ?_; (first | (refine kReg 12 ?_; refine c_regionSN (SPlan.take 0 (SPlan.take 1 (SPlan.run 2 (SPlan.run 3 (SPlan.run 4 (SPlan.run 5 SPlan.done)))))) (some 5) rfl rfl (by decide +kernel) ?_) | (refine kReg 12 ?_; refine c_regionSN (SPlan.take 0 (SPlan.take 1 (SPlan.run 2 (SPlan.run 3 (SPlan.run 4 (SPlan.run 5 SPlan.done)))))) none rfl rfl (by decide +kernel) ?_) | (refine kReg 13 ?_; refine c_regionSN (SPlan.take 0 (SPlan.take 1 (SPlan.take 2 (SPlan.take 3 (SPlan.take 4 (SPlan.take 5 (SPlan.run 6 (SPlan.take 7 SPlan.done)))))))) none rfl rfl (by decide +kernel) ?_) | (refine kReg 14 ?_; refine c_regionSN (SPlan.take 0 (SPlan.take 1 (SPlan.take 5 (SPlan.take 6 (SPlan.take 7 (SPlan.take 8 (SPlan.take 9 (SPlan.run 2 (SPlan.run 3 (SPlan.run 4 (SPlan.run 10 (SPlan.run 11 (SPlan.run 12 (SPlan.run 13 SPlan.done)))))))))))))) (some 13) rfl rfl (by decide +kernel) ?_) | (refine kReg 14 ?_; refine c_regionSN (SPlan.take 0 (SPlan.take 1 (SPlan.take 5 (SPlan.take 6 (SPlan.take 7 (SPlan.take 8 (SPlan.take 9 (SPlan.run 2 (SPlan.run 3 (SPlan.run 4 (SPlan.run 10 (SPlan.run 11 (SPlan.run 12 (SPlan.run 13 SPlan.done)))))))))))))) none rfl rfl (by decide +kernel) ?_) | (refine kReg 21 ?_; refine c_regionSN (SPlan.take 0 (SPlan.take 1 (SPlan.run 2 (SPlan.run 3 (SPlan.run 4 (SPlan.run 5 SPlan.done)))))) (some 5) rfl rfl (by decide +kernel) ?_) | (refine kReg 21 ?_; refine c_regionSN (SPlan.take 0 (SPlan.take 1 (SPlan.run 2 (SPlan.run 3 (SPlan.run 4 (SPlan.run 5 SPlan.done)))))) none rfl rfl (by decide +kernel) ?_) | (refine kReg 27 ?_; refine c_regionSN (SPlan.take 0 (SPlan.take 1 (SPlan.take 3 (SPlan.run 2 (SPlan.run 4 (SPlan.run 5 (SPlan.run 6 (SPlan.run 7 (SPlan.run 8 SPlan.done))))))))) (some 8) rfl rfl (by decide +kernel) ?_) | (refine kReg 27 ?_; refine c_regionSN (SPlan.take 0 (SPlan.take 1 (SPlan.take 3 (SPlan.run 2 (SPlan.run 4 (SPlan.run 5 (SPlan.run 6 (SPlan.run 7 (SPlan.run 8 SPlan.done))))))))) none rfl rfl (by decide +kernel) ?_) | refine c_seq ?_ | refine c_regionN rfl ?_ | refine c_ret ?_ | (refine kCond ?_; (first | refine c_cond_t rfl ?_ | ((first | refine c_cond_d rfl (fun h => ?_) (fun h => ?_) | refine c_cond_n rfl (fun h => ?_) (fun h => ?_)) <;> (try (first | contradiction | (exfalso; omega) | (exfalso; exact absurd hok.1 (by assumption)) | (exfalso; exact absurd hok.2 (by assumption)) | (exfalso; omega)))))) | refine c_block ?_ | refine c_skip ?_ | refine c_exit ?_ | refine c_regionQN rfl rfl (by decide +kernel) ?_)) | apply s_stepQ | refine lQ_then ?_ | (refine kE ?_; (first | refine e_then_r ?_ | refine e_then_n ?_ | refine e_then_x ?_ | refine e_block_n ?_ | refine e_block_x ?_)) | refine l_ends ?_)
      all_goals (refine kE ?_; refine s_leaveSF rfl rfl rfl fwA (fun w hw => ?_))
      all_goals exact ⟨_, _, rfl, ⟨_, rfl, hu⟩, hw.toFresh (H := H) gpA⟩
  · rw [damageOf_bad hok]
    (first | apply SYields.mk | apply SYieldsF.mk | skip); refine s_enter Try.func13 rfl Try.ntmps13 rfl ?_
    repeat' (first | exact rfl | (apply kO; (first | exact ov_pure rfl | (apply kOBin; (first | exact aBin)) | (apply kOCall; (first | (apply kCallF; (first | exact (ov_call rfl (fun w hw => c_isceneOk a _ w (hae.keep (hw.cells rfl)))) | exact (ov_call rfl (fun w hw => c_isceneOk t _ w (hbe.keep (hw.cells rfl)))))) | (apply kCallB; (exact aBlt)))) | (apply kOLoad; (exact aLdF)) | exact ov_fieldAddr rfl | (apply kOIdx; (first | exact aIdx)) | exact aNew)) | (refine kN ?_; (first | (refine kStore ?_; (first | refine s_storeS _ rfl rfl gpA rfl rfl (by rfl) ?_ | refine s_storeS _ rfl rfl gpA rfl (ones_img oiA) (by rfl) ?_)) | refine s_boxS rfl rfl (fun b hb => ?_) | refine s_allocS rfl (fun b hb => ?_) | apply s_step)) | (refine kG ?_; (first | refine s_gyes rfl rfl rfl ?_ | refine s_gno rfl rfl rfl rfl rfl ?_ | ((first | refine s_split_d rfl rfl (fun h => ?_) (fun h => ?_) | refine s_split_n rfl rfl (fun h => ?_) (fun h => ?_)) <;> (try (first | contradiction | (exfalso; omega) | (exfalso; exact absurd ⟨by assumption, by assumption⟩ hok)))))) | refine l_then ?_ | (refine kC ?_; (first | refine c_seq ?_ | refine c_regionN rfl ?_ | refine c_ret ?_ | (refine kCond ?_; (first | refine c_cond_t rfl ?_ | ((first | refine c_cond_d rfl (fun h => ?_) (fun h => ?_) | refine c_cond_n rfl (fun h => ?_) (fun h => ?_)) <;> (try (first | contradiction | (exfalso; omega) | (exfalso; exact absurd ⟨by assumption, by assumption⟩ hok)))))) | refine c_block ?_ | refine c_skip ?_ | refine c_exit ?_ | refine c_regionQN rfl rfl (by decide +kernel) ?_)) | apply s_stepQ | refine lQ_then ?_ | (refine kE ?_; (first | refine e_then_r ?_ | refine e_then_n ?_ | refine e_then_x ?_ | refine e_block_n ?_ | refine e_block_x ?_)) | refine l_ends ?_)
    all_goals (refine kE ?_; refine s_leaveSF rfl rfl rfl fwA (fun w hw => ?_))
    all_goals exact ⟨_, [], rfl, ⟨_, rfl, OVs.nil⟩, hw.toFresh0⟩
end Go.Proofs.Ytpcammhmgleonaa
namespace Go.Proofs.Ytpcammhmgleonaa
open Go Sx
attribute [local irreducible] Exit.then Exit.inBlock bodyPost
theorem putG_put (g : Grid) (y x : Nat) : Grid.put g y x true = putG g y x := rfl
theorem boxG_put {r : DRect} {old : Grid} {j i : Nat} (h0 : 0 ≤ r.X ∧ 0 ≤ r.Y) (hx : r.X + r.W ≤ 16) (hy : r.Y + r.H ≤ 16) (hi : (i : Int) < r.W) (hj : (j : Int) < r.H) :
    (gvals (boxG r old j i)).set ((r.Y + (j : Int)) * 16 + (r.X + (i : Int))).toNat true = gvals (boxG r old j (i + 1)) := by
  rw [show ((r.Y + (j : Int)) * 16 + (r.X + (i : Int))).toNat = (r.Y + j).toNat * 16 + (r.X + i).toNat by omega, gvals_set _ (by omega) (by omega), putG_put, gvals_congr (boxG_next h0 hi)]
set_option maxHeartbeats 2000000 in
set_option maxRecDepth 1000000 in
theorem c_l03Grid (v : Value) (l : List DRect) (W : World) (hv : RRects W v l) : SYieldsF Try.prog 147 #[v] (fun u H => OBools u (gvals (points l)) H) W := by
  have hv' := hv.form
  obtain ⟨_, _, rfl⟩ := hv'
  have hll := hv.len
  have hin := fun k => inter_screen_in (l.getD k DRect.zero)
  have hgl := fun g => gvals_length g
  have hzero : (List.replicate 256 false) = gvals (points (l.take 0)) := by
    exact (List.eq_replicate_iff.2 ⟨by simp [gvals], fun c hc => by obtain ⟨q, _, rfl⟩ := List.mem_map.1 hc; rfl⟩).symm
  (first | apply SYields.mk | apply SYieldsF.mk | skip); refine s_enter Try.func147 rfl Try.ntmps147 rfl ?_
  repeat' (first | exact rfl | (apply kO; (first | exact ov_pure rfl | (apply kOBin; (first | exact aBin | exact (ov_add rfl rfl (by have := hin k.1; omega)) | exact (ov_mul rfl rfl (by have := hin k.1; omega)))) | (apply kOCall; (first | (apply kCallF; (first | exact (ov_call rfl (fun w hw => c_sintersect (l.getD k.1 DRect.zero) DRect.screen w)))) | (apply kCallB; (exact aBlt)))) | (apply kOLoad; (first | exact aLdF | exact aLdR)) | exact ov_fieldAddr rfl | (apply kOIdx; (first | exact (ov_idxR (fun w hw => OBools.rd (by assumption) (hfA hw)) rfl rfl (by rw [hgl]; have := hin k.1; omega)) | exact aIdx)) | exact aNew)) | (refine kN ?_; (first | (refine kStore ?_; (first | (refine s_setB _ rfl rfl (by assumption) gpA (by rw [hgl]; have := hin k.1; omega) (fun H' hu => ?_)) | refine s_storeS _ rfl rfl gpA rfl rfl (by rfl) ?_ | refine s_storeS _ rfl rfl gpA rfl (ones_img oiA) (by rfl) ?_)) | refine s_allocS rfl (fun b hb => ?_) | (refine kWMake ?_; (refine s_make1 rfl rfl rfl ⟨by omega, by omega, by omega⟩ (by omega) rfl (fun b hb => ?_))) | apply s_step)) | (refine kS ?_; (first | refine h_exec rfl ?_ | refine h_alt ?_ ?_ | apply h_take)) | (refine kBack ?_; (first | refine h_back_last rfl ?_ | refine h_backN rfl subA ?_)) | refine l_then ?_ | (refine kC ?_; (first | (refine kReg 6 ?_; refine c_regionSN (SPlan.take 0 (SPlan.take 1 (SPlan.take 2 (SPlan.take 3 (SPlan.take 4 ((SPlan.run 5 (SPlan.run 6 (SPlan.run 7 SPlan.done))).alt (SPlan.run 6 (SPlan.run 5 (SPlan.run 7 SPlan.done))))))))) (some 7) rfl rfl (by decide +kernel) ?_) | (refine kReg 6 ?_; refine c_regionSN (SPlan.take 0 (SPlan.take 1 (SPlan.take 2 (SPlan.take 3 (SPlan.take 4 ((SPlan.run 5 (SPlan.run 6 (SPlan.run 7 SPlan.done))).alt (SPlan.run 6 (SPlan.run 5 (SPlan.run 7 SPlan.done))))))))) none rfl rfl (by decide +kernel) ?_) | (refine c_loopV (ι := Nat × SPiece) (fun k => k.1 ≤ l.length ∧ OBools _ (gvals (points (l.take k.1))) k.2) (fun k => [(5, .int .i64 (k.1 : Int))]) (fun k => [_, k.2]) (fun k => l.length - k.1) (0, _) ⟨by dsimp only; omega, by dsimp only; rw [← hzero]; exact OBools.full _ false (by unfold maxLen; omega)⟩ rfl (fun _ => rfl) ⟨rfl, trivial⟩ (fun w hw => hw) (fun k hk => ?_); obtain ⟨hk1, hk2⟩ := hk) | (refine c_loopV (ι := Nat × SPiece) (fun j => (j.1 : Int) ≤ ((l.getD k.1 DRect.zero).inter DRect.screen).H ∧ OBools _ (gvals (boxG ((l.getD k.1 DRect.zero).inter DRect.screen) (points (l.take k.1)) j.1 0)) j.2) (fun j => [(7, .int .i64 (((l.getD k.1 DRect.zero).inter DRect.screen).Y + (j.1 : Int)))]) (fun j => [_, _, j.2]) (fun j => ((l.getD k.1 DRect.zero).inter DRect.screen).H.toNat - j.1) (0, _) ⟨by have := hin k.1; dsimp only; omega, by rw [gvals_congr (boxG_zero _ _)]; exact hk2⟩ rfl (fun _ => rfl) ⟨slook_to rfl (vint_to (by simp)), trivial⟩ (fun w hw => hw) (fun j hj => ?_); obtain ⟨hj1, hj2⟩ := hj) | (refine c_loopV (ι := Nat × SPiece) (fun i => (i.1 : Int) ≤ ((l.getD k.1 DRect.zero).inter DRect.screen).W ∧ OBools _ (gvals (boxG ((l.getD k.1 DRect.zero).inter DRect.screen) (points (l.take k.1)) j.1 i.1)) i.2) (fun i => [(8, .int .i64 (((l.getD k.1 DRect.zero).inter DRect.screen).X + (i.1 : Int)))]) (fun i => [_, _, i.2]) (fun i => ((l.getD k.1 DRect.zero).inter DRect.screen).W.toNat - i.1) (0, _) ⟨by have := hin k.1; dsimp only; omega, hj2⟩ rfl (fun _ => rfl) ⟨slook_to rfl (vint_to (by simp)), trivial⟩ (fun w hw => hw) (fun i hi => ?_); obtain ⟨hi1, hi2⟩ := hi) | refine c_seq ?_ | refine c_regionN rfl ?_ | refine c_ret ?_ | (refine kCond ?_; (((refine c_cond_d rfl (fun h => ?_) (fun h => ?_)) <;> (try (first | contradiction | (exfalso; omega)))))) | refine c_block ?_ | refine c_skip ?_ | refine c_exit ?_)) | (refine kE ?_; (first | refine e_then_n ?_ | refine e_then_x ?_ | refine e_block_n ?_ | refine e_block_x ?_)) | refine l_ends ?_)
  · have hk0 := hin k.1
    rw [boxG_put ⟨by omega, by omega⟩ (by omega) (by omega) (by omega) (by omega)] at hu
    exact e_round (i.1 + 1, H') ⟨by dsimp only; omega, hu⟩ ⟨slook_to rfl (vint_to (by push_cast; omega)), (by repeat' first | exact trivial | refine ⟨rfl, ?_⟩)⟩ (fun w hw => hw) (by dsimp only; omega)
  · have hk0 := hin k.1
    rw [gvals_congr (boxG_row (by omega))] at hi2
    exact e_round (j.1 + 1, i.2) ⟨by dsimp only; omega, hi2⟩ ⟨slook_to rfl (vint_to (by push_cast; omega)), (by repeat' first | exact trivial | refine ⟨rfl, ?_⟩)⟩ (fun w hw => hw) (by dsimp only; omega)
  · have hk0 := hin k.1
    have hok : ((l.getD k.1 DRect.zero).inter DRect.screen).ok := by unfold DRect.ok; omega
    rw [gvals_congr ((boxG_all hok (by omega)).trans (points_take_screen (by omega)))] at hj2
    exact e_round (k.1 + 1, j.2) ⟨by dsimp only; omega, hj2⟩ ⟨slook_to rfl (vint_to (by push_cast; rfl)), (by repeat' first | exact trivial | refine ⟨rfl, ?_⟩)⟩ (fun w hw => hw.sub (selO_sub [false, true, true] _ _ rfl)) (by dsimp only; omega)
  · have hk0 := hin k.1
    rw [boxG_put ⟨by omega, by omega⟩ (by omega) (by omega) (by omega) (by omega)] at hu
    exact e_round (i.1 + 1, H') ⟨by dsimp only; omega, hu⟩ ⟨slook_to rfl (vint_to (by push_cast; omega)), (by repeat' first | exact trivial | refine ⟨rfl, ?_⟩)⟩ (fun w hw => hw) (by dsimp only; omega)
  · have hk0 := hin k.1
    rw [gvals_congr (boxG_row (by omega))] at hi2
    exact e_round (j.1 + 1, i.2) ⟨by dsimp only; omega, hi2⟩ ⟨slook_to rfl (vint_to (by push_cast; omega)), (by repeat' first | exact trivial | refine ⟨rfl, ?_⟩)⟩ (fun w hw => hw) (by dsimp only; omega)
  · have hk0 := hin k.1
    have hok : ((l.getD k.1 DRect.zero).inter DRect.screen).ok := by unfold DRect.ok; omega
    rw [gvals_congr ((boxG_all hok (by omega)).trans (points_take_screen (by omega)))] at hj2
    exact e_round (k.1 + 1, j.2) ⟨by dsimp only; omega, hj2⟩ ⟨slook_to rfl (vint_to (by push_cast; rfl)), (by repeat' first | exact trivial | refine ⟨rfl, ?_⟩)⟩ (fun w hw => hw.sub (selO_sub [false, true, true] _ _ rfl)) (by dsimp only; omega)
  · have e : k.1 = l.length := by omega
    rw [e, List.take_length] at hk2
    exact s_leave1 rfl rfl (fun w hw => ⟨_, _, rfl, hk2, hw.toFresh (H := k.2) gpA⟩)
end Go.Proofs.Ytpcammhmgleonaa
namespace Go.Proofs.Ytpcammhmgleonaa
open Go Sx
attribute [local irreducible] Exit.then Exit.inBlock bodyPost
theorem sameRow_true {g : Grid} {y z : Nat} (h : ∀ i, i < 16 → g z i = g y i) : sameRow g y z = true := sameRow_iff.2 h
theorem sameRow_false {g : Grid} {y z i : Nat} (hi : i < 16) (h : g z i ≠ g y i) : sameRow g y z = false := by
  cases e : sameRow g y z
  · rfl
  · exact absurd (sameRow_iff.1 e i hi) h
theorem gv_at (g : Grid) {y : Nat} {x : Nat} (hy : y < 16) (hx : x < 16) : (gvals g).getD ((y : Int) * 16 + (x : Int)).toNat false = g y x := by
  rw [show ((y : Int) * 16 + (x : Int)).toNat = y * 16 + x by omega]; exact gvals_at g hy hx
set_option maxRecDepth 1000000 in
theorem c_l03Row (v : Value) (g : Grid) (y z : Nat) (W : World) (hy : y < 16) (hz : z < 16) (hv : RBools W v (gvals g)) : SYields Try.prog 171 #[v, .int .i64 (y : Int), .int .i64 (z : Int)] (.bool (sameRow g y z)) W := by
  have hgl := gvals_length g
  have hv' := hv.form
  obtain ⟨_, _, rfl⟩ := hv'
  (first | apply SYields.mk | apply SYieldsF.mk | skip); refine s_enter Try.func171 rfl Try.ntmps171 rfl ?_
  repeat' (first | exact rfl | (apply kO; (first | exact ov_pure rfl | (apply kOBin; (first | exact aBin)) | (apply kOLoad; (exact (ov_ldR0 (fun w hw => RRow.keep hv (hw.cells rfl)) rfl rfl (by rw [hgl]; omega) rfl))) | (apply kOIdx; (exact (ov_idxR (fun w hw => RRow.keep hv (hw.cells rfl)) rfl rfl (by rw [hgl]; omega)))))) | (refine kN ?_; (apply s_step)) | refine l_then ?_ | (refine kC ?_; (first | (refine c_loopV (ι := Nat) (fun x => x ≤ 16 ∧ ∀ i, i < x → g z i = g y i) (fun x => [(7, .int .i64 (x : Int))]) (fun _ => []) (fun x => 16 - x) 0 ⟨by omega, fun i hi => by omega⟩ rfl (fun _ => rfl) ⟨rfl, trivial⟩ (fun w hw => hw) (fun x hx => ?_)) | refine c_seq ?_ | refine c_regionN rfl ?_ | refine c_ret ?_ | (refine kCond ?_; (((first | refine c_cond_d rfl (fun h => ?_) (fun h => ?_) | refine c_cond_n rfl (fun h => ?_) (fun h => ?_)) <;> (try (first | contradiction | (exfalso; omega)))))) | refine c_block ?_ | refine c_skip ?_ | refine c_exit ?_ | refine c_regionQN rfl rfl (by decide +kernel) ?_)) | apply s_stepQ | refine lQ_then ?_ | (refine kE ?_; (first | refine e_then_r ?_ | refine e_block_r ?_ | refine e_then_n ?_ | refine e_then_x ?_ | refine e_block_n ?_ | refine e_block_x ?_)) | refine l_ends ?_)
  · rw [gv_at g hy (by omega), gv_at g hz (by omega)] at h
    exact s_leave1 rfl rfl (fun w hw => ⟨by rw [sameRow_false (g := g) (y := y) (z := z) (i := x) (by omega) (fun e => h e.symm)], hw.below⟩)
  · rw [gv_at g hy (by omega), gv_at g hz (by omega)] at h
    refine e_round (x + 1) ⟨by omega, fun i hi => ?_⟩ ⟨slook_to rfl (vint_to (by push_cast; rfl)), (by repeat' first | exact trivial | refine ⟨rfl, ?_⟩)⟩ (fun w hw => hw) (by omega)
    by_cases e : i = x
    · subst e; exact h.symm
    · exact hx.2 i (by omega)
  · exact s_leave1 rfl rfl (fun w hw => ⟨by rw [sameRow_true (g := g) (y := y) (z := z) (fun i hi => hx.2 i (by omega))], hw.below⟩)
end Go.Proofs.Ytpcammhmgleonaa
namespace Go.Proofs.Ytpcammhmgleonaa
open Go Sx
attribute [local irreducible] Exit.then Exit.inBlock bodyPost Sx.bits canonR rowR gvals sameRow OVs
theorem gv_at3 (g : Grid) {y x z : Nat} (hy : y < 16) (hx : x + z < 16) : (gvals g).getD ((y : Int) * 16 + (x : Int) + (z : Int)).toNat false = g y (x + z) := by
  rw [show ((y : Int) * 16 + (x : Int) + (z : Int)).toNat = y * 16 + (x + z) by omega]; exact gvals_at g hy hx
set_option maxRecDepth 1000000 in
set_option maxHeartbeats 4000000 in
theorem c_l03Canon (v : Value) (g : Grid) (W : World) (hv : RBools W v (gvals g)) : SYieldsF Try.prog 146 #[v] (fun u H => OReg u (canon g) H) W := by
  have hgl := gvals_length g
  have hv' := hv.form
  obtain ⟨_, _, rfl⟩ := hv'
  (first | apply SYields.mk | apply SYieldsF.mk | skip); refine s_enter Try.func146 rfl Try.ntmps146 rfl ?_
  repeat' (first | exact rfl | (apply kO; (first | exact ov_pure rfl | (apply kOBin; (first | exact aBin)) | (apply kOCall; ((apply kCallF; (first | exact (ov_call rfl (fun w hw => c_l03Row _ g y.1 (y.1 + e) w (by omega) (by omega) (RRow.keep hv (hw.cells rfl)))))))) | (apply kOLoad; (first | exact (ov_ldR0 (fun w hw => RRow.keep hv (hw.cells rfl)) rfl rfl (by rw [hgl]; omega) rfl) | exact aLdF)) | exact ov_fieldAddr rfl | (apply kOIdx; (exact (ov_idxR (fun w hw => RRow.keep hv (hw.cells rfl)) rfl rfl (by rw [hgl]; omega)))) | exact aNew)) | (refine kN ?_; (first | (refine kCall ?_; (first | (refine kWApp ?_; (refine s_appendVs _ _ (c := cRect) (kk := 4) (a := ⟨x.1, y.1, (z : Int), (e : Int)⟩) rfl rfl (by assumption) gpA gpA rfl rfl (by rw [scells_eq]; rfl) (by decide) (by omega) (by decide) rfl (fun v' H' hv' => ?_); have f1 := hv'.form; obtain ⟨ua, uc, rfl⟩ := f1)) | apply s_step)) | (refine kStore ?_; (first | (refine s_storeS _ rfl rfl gpA rfl (ones_cons (OVs.one (by assumption)) rfl) (by rfl) ?_) | refine s_store1 _ rfl rfl gpA rfl (by rfl) ?_ | refine s_storeS _ rfl rfl gpA rfl rfl (by rfl) ?_ | refine s_storeS _ rfl rfl gpA rfl (ones_img oiA) (by rfl) ?_)) | refine s_allocS rfl (fun b hb => ?_) | refine s_buildSlice rfl rfl rfl rfl rfl (fun b hb => ?_) | apply s_step)) | (refine kG ?_; (first | refine s_gyes rfl rfl rfl ?_ | refine s_gno rfl rfl rfl rfl rfl ?_ | ((refine s_split_d rfl rfl (fun h => ?_) (fun h => ?_)) <;> (try (first | (exfalso; omega)))))) | refine l_then ?_ | (refine kC ?_; (first | (refine kLoop 3 ?_; refine c_loopV (ι := Nat × List DRect × Value × SPiece) (fun y => y.1 ≤ 16 ∧ ORects y.2.2.1 y.2.1 y.2.2.2 ∧ y.2.1 ++ canonR g y.1 = canon g ∧ y.2.1.length ≤ 8 * y.1) (fun y => [(4, .int .i64 (y.1 : Int))]) (fun y => [[(_, srow [y.2.2.1] 34)], y.2.2.2, _]) (fun y => 16 - y.1) (0, [], _, []) ⟨by dsimp only; omega, OVs.nil, (show [] ++ canonR g 0 = canonR g 0 from List.nil_append _), by dsimp only; simp⟩ rfl (fun _ => rfl) ⟨rfl, trivial⟩ (fun w hw => hw.nil1) (fun y hy => ?_); obtain ⟨hy1, hy2, hy3, hy4⟩ := hy) | (refine kLoop 5 ?_; refine c_loopV (ι := Nat) (fun e => (1 ≤ e ∧ y.1 + e ≤ 16) ∧ ∀ z, y.1 < z → z < y.1 + e → z < 16 ∧ sameRow g y.1 z = true) (fun e => [(5, .int .i64 (e : Int))]) (fun e => [_, _, _]) (fun e => 16 - e) 1 ⟨by omega, fun z a c => by omega⟩ rfl (fun _ => rfl) ⟨rfl, trivial⟩ (fun w hw => hw) (fun e he => ?_); obtain ⟨he1, he2⟩ := he) | (refine kLoop 8 ?_; refine c_loopV (ι := Nat × List DRect × Value × SPiece) (fun x => x.1 ≤ 17 ∧ ORects x.2.2.1 x.2.1 x.2.2.2 ∧ x.2.1 ++ (rowR (g y.1) y.1 (e : Int) x.1 ++ canonR g (y.1 + e)) = canon g ∧ x.2.1.length ≤ 8 * y.1 + x.1 / 2) (fun x => [(6, .int .i64 (x.1 : Int))]) (fun x => [[(_, srow [x.2.2.1] 34)], x.2.2.2, _]) (fun x => 17 - x.1) (0, y.2.1, y.2.2.1, y.2.2.2) ⟨by dsimp only; omega, hy2, by dsimp only; rw [← hy3, canonR_step (g := g) (y := y.1) (by omega), hgt_of (e := y.1 + e) (by omega) he2 (fun hh => by first | omega | exact absurd hh.2 (by assumption) | exact absurd hh.2 (Bool.eq_false_iff.1 (by assumption))), show y.1 + e - y.1 = e by omega], by dsimp only; omega⟩ rfl (fun _ => rfl) ⟨rfl, trivial⟩ (fun w hw => hw) (fun x hx => ?_); obtain ⟨hx1, hx2, hx3, hx4⟩ := hx) | (refine kLoop 10 ?_; refine c_loopV (ι := Nat) (fun z => x.1 + z ≤ 16 ∧ ∀ i, x.1 ≤ i → i < x.1 + z → i < 16 ∧ g y.1 i = true) (fun z => [(7, .int .i64 (z : Int))]) (fun z => [_, _, _]) (fun z => 16 - z) 0 ⟨by omega, fun i a c => by omega⟩ rfl (fun _ => rfl) ⟨rfl, trivial⟩ (fun w hw => hw) (fun z hz => ?_); obtain ⟨hz1, hz2⟩ := hz) | refine c_seq ?_ | refine c_regionN rfl ?_ | refine c_ret ?_ | (refine kCond ?_; (first | refine c_cond_f rfl ?_ | ((refine c_cond_d rfl (fun h => ?_) (fun h => ?_)) <;> (try (first | (exfalso; omega)))) | refine c_cond rfl (fun h => ?_) (fun h => ?_))) | refine c_block ?_ | refine c_skip ?_ | refine c_exit ?_)) | (refine kE ?_; (first | refine e_then_n ?_ | refine e_then_x ?_ | refine e_block_n ?_ | refine e_block_x ?_)) | refine l_ends ?_)
  · refine e_round (e + 1) ⟨by omega, fun z a c => ?_⟩ ⟨slook_to rfl (vint_to (by push_cast; rfl)), (by repeat' first | exact trivial | refine ⟨rfl, ?_⟩)⟩ (fun w hw => hw) (by omega)
    by_cases e0 : z = y.1 + e
    · subst e0; exact ⟨by omega, by assumption⟩
    · exact he2 z a (by omega)
  · refine e_round (z + 1) ⟨by omega, fun i a c => ?_⟩ ⟨slook_to rfl (vint_to (by push_cast; rfl)), (by repeat' first | exact trivial | refine ⟨rfl, ?_⟩)⟩ (fun w hw => hw) (by omega)
    by_cases e0 : i = x.1 + z
    · subst e0; exact ⟨by omega, by rw [← gv_at3 g (y := y.1) (x := x.1) (z := z) (by omega) (by omega)]; assumption⟩
    · exact hz2 i a (by omega)
  · have hxz : 0 < z := by omega
    have hn : ¬ (x.1 + z < 16 ∧ g y.1 (x.1 + z) = true) := fun hh => by have hf : g y.1 (x.1 + z) = false := (by rw [← gv_at3 g (y := y.1) (x := x.1) (z := z) (by omega) (by omega)]; assumption); rw [hf] at hh; exact absurd hh.2 Bool.false_ne_true
    refine e_round (x.1 + z + 1, _, _, H') ⟨by dsimp only; omega, hv', ?_, by dsimp only; rw [List.length_append, List.length_singleton]; omega⟩ ⟨slook_to rfl (vint_to (by push_cast; rfl)), (by repeat' first | exact trivial | refine ⟨rfl, ?_⟩)⟩ (fun w hw => hw.sub (selO_sub [false, true, true, true] _ _ rfl)) (by dsimp only; omega)
    dsimp only
    rw [← hx3, rowR_app (f := g y.1) (y := y.1) (h := (e : Int)) (x := x.1) (z := x.1 + z) (by omega) (by omega) hz2 hn, show (((x.1 + z : Nat) : Int) - (x.1 : Int)) = (z : Int) by omega, List.append_assoc, List.append_assoc]
  · have hxz : z = 0 := by omega
    subst hxz
    have hn : ¬ (x.1 < 16 ∧ g y.1 x.1 = true) := fun hh => by have hf : g y.1 (x.1 + 0) = false := (by rw [← gv_at3 g (y := y.1) (x := x.1) (z := 0) (by omega) (by omega)]; assumption); rw [Nat.add_zero] at hf; rw [hf] at hh; exact absurd hh.2 Bool.false_ne_true
    refine e_round (x.1 + 1, x.2.1, x.2.2.1, x.2.2.2) ⟨by dsimp only; omega, hx2, ?_, by dsimp only; omega⟩ ⟨slook_to rfl (vint_to (by push_cast; omega)), (by repeat' first | exact trivial | refine ⟨rfl, ?_⟩)⟩ (fun w hw => hw) (by dsimp only; omega)
    dsimp only
    rw [← rowR_skip (f := g y.1) (y := y.1) (h := (e : Int)) (by omega) hn]; exact hx3
  · have hxz : 0 < z := by omega
    have hn : ¬ (x.1 + z < 16 ∧ g y.1 (x.1 + z) = true) := fun hh => by omega
    refine e_round (x.1 + z + 1, _, _, H') ⟨by dsimp only; omega, hv', ?_, by dsimp only; rw [List.length_append, List.length_singleton]; omega⟩ ⟨slook_to rfl (vint_to (by push_cast; rfl)), (by repeat' first | exact trivial | refine ⟨rfl, ?_⟩)⟩ (fun w hw => hw.sub (selO_sub [false, true, true, true] _ _ rfl)) (by dsimp only; omega)
    dsimp only
    rw [← hx3, rowR_app (f := g y.1) (y := y.1) (h := (e : Int)) (x := x.1) (z := x.1 + z) (by omega) (by omega) hz2 hn, show (((x.1 + z : Nat) : Int) - (x.1 : Int)) = (z : Int) by omega, List.append_assoc, List.append_assoc]
  · rw [rowR_done (by omega), List.nil_append] at hx3
    exact e_round (y.1 + e, x.2.1, x.2.2.1, x.2.2.2) ⟨by dsimp only; omega, hx2, hx3, by dsimp only; omega⟩ ⟨slook_to rfl (vint_to (by push_cast; rfl)), (by repeat' first | exact trivial | refine ⟨rfl, ?_⟩)⟩ (fun w hw => hw) (by dsimp only; omega)
  · refine e_round (z + 1) ⟨by omega, fun i a c => ?_⟩ ⟨slook_to rfl (vint_to (by push_cast; rfl)), (by repeat' first | exact trivial | refine ⟨rfl, ?_⟩)⟩ (fun w hw => hw) (by omega)
    by_cases e0 : i = x.1 + z
    · subst e0; exact ⟨by omega, by rw [← gv_at3 g (y := y.1) (x := x.1) (z := z) (by omega) (by omega)]; assumption⟩
    · exact hz2 i a (by omega)
  · have hxz : 0 < z := by omega
    have hn : ¬ (x.1 + z < 16 ∧ g y.1 (x.1 + z) = true) := fun hh => by have hf : g y.1 (x.1 + z) = false := (by rw [← gv_at3 g (y := y.1) (x := x.1) (z := z) (by omega) (by omega)]; assumption); rw [hf] at hh; exact absurd hh.2 Bool.false_ne_true
    refine e_round (x.1 + z + 1, _, _, H') ⟨by dsimp only; omega, hv', ?_, by dsimp only; rw [List.length_append, List.length_singleton]; omega⟩ ⟨slook_to rfl (vint_to (by push_cast; rfl)), (by repeat' first | exact trivial | refine ⟨rfl, ?_⟩)⟩ (fun w hw => hw.sub (selO_sub [false, true, true, true] _ _ rfl)) (by dsimp only; omega)
    dsimp only
    rw [← hx3, rowR_app (f := g y.1) (y := y.1) (h := (e : Int)) (x := x.1) (z := x.1 + z) (by omega) (by omega) hz2 hn, show (((x.1 + z : Nat) : Int) - (x.1 : Int)) = (z : Int) by omega, List.append_assoc, List.append_assoc]
  · have hxz : z = 0 := by omega
    subst hxz
    have hn : ¬ (x.1 < 16 ∧ g y.1 x.1 = true) := fun hh => by have hf : g y.1 (x.1 + 0) = false := (by rw [← gv_at3 g (y := y.1) (x := x.1) (z := 0) (by omega) (by omega)]; assumption); rw [Nat.add_zero] at hf; rw [hf] at hh; exact absurd hh.2 Bool.false_ne_true
    refine e_round (x.1 + 1, x.2.1, x.2.2.1, x.2.2.2) ⟨by dsimp only; omega, hx2, ?_, by dsimp only; omega⟩ ⟨slook_to rfl (vint_to (by push_cast; omega)), (by repeat' first | exact trivial | refine ⟨rfl, ?_⟩)⟩ (fun w hw => hw) (by dsimp only; omega)
    dsimp only
    rw [← rowR_skip (f := g y.1) (y := y.1) (h := (e : Int)) (by omega) hn]; exact hx3
  · have hxz : 0 < z := by omega
    have hn : ¬ (x.1 + z < 16 ∧ g y.1 (x.1 + z) = true) := fun hh => by omega
    refine e_round (x.1 + z + 1, _, _, H') ⟨by dsimp only; omega, hv', ?_, by dsimp only; rw [List.length_append, List.length_singleton]; omega⟩ ⟨slook_to rfl (vint_to (by push_cast; rfl)), (by repeat' first | exact trivial | refine ⟨rfl, ?_⟩)⟩ (fun w hw => hw.sub (selO_sub [false, true, true, true] _ _ rfl)) (by dsimp only; omega)
    dsimp only
    rw [← hx3, rowR_app (f := g y.1) (y := y.1) (h := (e : Int)) (x := x.1) (z := x.1 + z) (by omega) (by omega) hz2 hn, show (((x.1 + z : Nat) : Int) - (x.1 : Int)) = (z : Int) by omega, List.append_assoc, List.append_assoc]
  · rw [rowR_done (by omega), List.nil_append] at hx3
    exact e_round (y.1 + e, x.2.1, x.2.2.1, x.2.2.2) ⟨by dsimp only; omega, hx2, hx3, by dsimp only; omega⟩ ⟨slook_to rfl (vint_to (by push_cast; rfl)), (by repeat' first | exact trivial | refine ⟨rfl, ?_⟩)⟩ (fun w hw => hw) (by dsimp only; omega)
  · have e0 : y.1 = 16 := by omega
    rw [e0, canonR_done (by omega), List.append_nil] at hy3
    rw [hy3] at hy2
    exact s_leaveSF rfl rfl rfl fwA (fun w hw => ⟨_, _, rfl, ⟨_, rfl, hy2⟩, hw.toFresh (H := y.2.2.2) gpA⟩)
end Go.Proofs.Ytpcammhmgleonaa
