/-
  Texts that the law stands on, part 3: K15, L3, KD, KE, L4, KY, L8, L9, M13, M14, L14, L15, M15, M12, M16, L0, L19, L5.
-/
import Derived.Laws.StructEq
import Derived.Test.YtfmjeakcfmmkfaaGreatPaintVisibleB2
/-
  Contracts: the picture of a surface; is it opaque.
-/
set_option linter.unusedVariables false
namespace Go.Proofs.YtfmjeakcfmmkfaaGreat
open Go Sx
attribute [local irreducible] Exit.then Exit.inBlock bodyPost oriented scaled pictureOf rawPicture
theorem c_ifaded (i : DImg) (d : Value) (a : Int) (H : SPiece) (W : World) (hv : OInts 3 d i.data H) (hH : Holds W H) (hn : H.keys.Nodup) :
    SYieldsG Tryz.prog 218 #[vImg i d, .int .i64 a] H (fun u H' F => u = vImg i d ∧ OInts 3 d (fadedImg i a).data H' ∧ F = []) W := by
  have hml := mapFirst_length (fun p => fade p a) i.data
  have hlen := hv.len
  refine SYieldsG.mk (s_enterM Tryz.func218 rfl Tryz.ntmps218 rfl hH hn ?_)
  repeat' (first | exact rfl | (apply kO; (first | exact ov_pure rfl | (apply kOBin; (first | exact aBin)) | (apply kOCall; (first | (apply kCallF; (first | exact (ov_call rfl (fun w hw => c_ifade _ _ w)))) | (apply kCallB; (first | exact aBlt | exact (ov_lenR (fun w hw => (rrA hw)) rfl) | exact aLenR)))) | (apply kOLoad; (first | exact (ov_ldR0 (fun w hw => (rrA hw)) rfl rfl (by rw [hml]; omega) rfl) | exact aLdF | exact aLdR)) | exact ov_fieldAddr rfl | (apply kOIdx; (first | exact (ov_idxR (fun w hw => (rrA hw)) rfl rfl (by rw [hml]; omega)) | exact aIdx)) | exact aRest | exact aNew | exact (ov_field1 (ft := 31) rfl rfl rfl rfl))) | (refine kN ?_; (first | (refine kStore ?_; (first | (refine s_setI _ rfl rfl (by assumption) gpA (by rw [hml]; omega) (fun H' hu => ?_)) | refine s_store1 _ rfl rfl gpA rfl (by rfl) ?_ | refine s_storeS _ rfl rfl gpA rfl rfl (by rfl) ?_ | refine s_storeS _ rfl rfl gpA rfl (ones_img oiA) (by rfl) ?_)) | refine s_boxS rfl rfl (fun b hb => ?_) | refine s_allocS rfl (fun b hb => ?_) | refine s_box1 rfl rfl rfl (fun b hb => ?_) | refine s_alloc1 rfl rfl (fun b hb => ?_) | refine s_buildSlice0 rfl (fun b hb => ?_) | refine s_buildSlice rfl rfl rfl rfl rfl (fun b hb => ?_) | apply s_step)) | (refine kG ?_; (first | refine s_gyes rfl rfl rfl ?_ | refine s_gno rfl rfl rfl rfl rfl ?_ | ((first | refine s_split_d rfl rfl (fun h => ?_) (fun h => ?_) | refine s_split_n rfl rfl (fun h => ?_) (fun h => ?_)) <;> (try (first | contradiction | (exfalso; omega)))) | refine s_split_nb rfl rfl (fun h => ?_) (fun h => ?_) | refine s_split rfl rfl (fun h => ?_) (fun h => ?_))) | (refine kS ?_; (first | refine h_exec rfl ?_ | refine h_take_nil rfl rfl rfl ?_ | refine h_take_pick rfl rfl rfl ?_ | refine h_nil ?_ | refine h_alt ?_ ?_ | apply h_take)) | (refine kBack ?_; (first | refine h_back_last rfl ?_ | refine h_backN rfl subA ?_)) | refine l_then ?_ | (refine kC ?_; (first | (refine kReg 4 ?_; refine c_regionSN (SPlan.take 0 (SPlan.take 1 (SPlan.take 2 (SPlan.take 3 (SPlan.take 4 (SPlan.run 5 (SPlan.take 6 (SPlan.run 7 SPlan.done)))))))) (some 7) rfl rfl (by decide +kernel) ?_) | (refine kReg 4 ?_; refine c_regionSN (SPlan.take 0 (SPlan.take 1 (SPlan.take 2 (SPlan.take 3 (SPlan.take 4 (SPlan.run 5 (SPlan.take 6 (SPlan.run 7 SPlan.done)))))))) none rfl rfl (by decide +kernel) ?_) | (refine c_loopV (ι := Nat × SPiece) (fun j => j.1 ≤ i.data.length ∧ OInts 3 d (mapFirst (fun p => fade p a) i.data j.1) j.2) (fun j => [(10, .int .i64 (j.1 : Int))]) (fun j => [_, _, j.2]) (fun j => i.data.length - j.1) (0, _) ⟨by dsimp only; omega, by rw [mapFirst_zero]; exact hv⟩ rfl (fun _ => rfl) ⟨rfl, trivial⟩ (fun w hw => hw) (fun j hj => ?_); obtain ⟨hj1, hj2⟩ := hj) | refine c_seq ?_ | refine c_regionN rfl ?_ | refine c_ret ?_ | (refine kCond ?_; (first | refine c_cond_t rfl ?_ | refine c_cond_f rfl ?_ | ((first | refine c_cond_d rfl (fun h => ?_) (fun h => ?_) | refine c_cond_n rfl (fun h => ?_) (fun h => ?_)) <;> (try (first | contradiction | (exfalso; omega)))) | refine c_cond_nb rfl (fun h => ?_) (fun h => ?_) | refine c_cond rfl (fun h => ?_) (fun h => ?_))) | refine c_block ?_ | refine c_skip ?_ | refine c_exit ?_ | refine c_regionQN rfl rfl (by decide +kernel) ?_)) | apply s_stepQ | (refine kQG ?_; (first | refine s_gyesQ rfl rfl rfl ?_ | refine s_gnoQ rfl rfl rfl rfl rfl ?_ | ((first | refine s_splitQ_d rfl rfl (fun h => ?_) (fun h => ?_) | refine s_splitQ_n rfl rfl (fun h => ?_) (fun h => ?_)) <;> (try (first | contradiction | (exfalso; omega)))) | refine s_splitQ_nb rfl rfl (fun h => ?_) (fun h => ?_) | refine s_splitQ rfl rfl (fun h => ?_) (fun h => ?_))) | refine lQ_then ?_ | refine lQ_ends ?_ | (refine kE ?_; (first | refine e_then_r ?_ | refine e_block_r ?_ | refine e_then_n ?_ | refine e_then_x ?_ | refine e_block_n ?_ | refine e_block_x ?_ | refine e_block_y rfl ?_)) | refine l_ends ?_)
  · have hs := mapFirst_set (fun p => fade p a) i.data (j := j.1) (by omega)
    rw [Int.toNat_natCast, mapFirst_get _ _ (by omega), hs] at hu
    exact e_round (j.1 + 1, H') ⟨by dsimp only; omega, hu⟩ ⟨rfl, (by repeat' first | exact trivial | refine ⟨rfl, ?_⟩)⟩ (fun w hw => hw) (by dsimp only; omega)
  · rw [mapFirst_all _ _ (by omega)] at hj2
    refine s_leaveSF rfl rfl rfl fwA (fun w hw => ⟨_, _, _, rfl, ⟨rfl, hj2, rfl⟩, (hw.sub (L' := [_]) (by repeat' first | exact List.nil_sublist _ | exact List.Sublist.slnil | refine List.Sublist.cons_cons _ ?_ | refine List.Sublist.cons _ ?_)).lone⟩)
section
variable {n : Nat} {lo : SMut} {s : World} {ops : Array Oper} {Q : Exit → Act → World → Prop} {E : SEnv} {L : SHeap} {dd : Nat} {ty : TypeId} {pos : String} {after : Array Edge} {rest : List Oper}
theorem s_faded (k : Nat) (i : DImg) {d : Value} {a : Int} {H : SPiece} {args : List Operand} {ts : Array TypeId} (ha : svals E args = some [vImg i d, .int .i64 a]) (hv : OInts 3 d i.data H) (hL : getL L k = some H) (hd : Nat.blt dd n = true)
    (c : ∀ H', OInts 3 d (fadedImg i a).data H' → WPL Tryz.prog n lo s ops Q rest ((dd, vImg i d) :: E) ([] :: setL L k H')) :
    WPL Tryz.prog n lo s ops Q (⟨some dd, .call { callee := .value (.func 218), args := args.toArray, argTypes := ts }, ty, pos, after, none⟩ :: rest) E L :=
  s_callG k (fun u H' F => u = vImg i d ∧ OInts 3 d (fadedImg i a).data H' ∧ F = []) ha hL (fun w hw hh hn => c_ifaded i d a H w hv hh hn) hd (fun v' H' F hu => by obtain ⟨rfl, hu, rfl⟩ := hu; exact c H' hu)
end
theorem c_surfacePicture (s : DSurf) (d : Value) (W : World) (hok : s.ok) (hd : RInts W d s.buf.data) : SYieldsF Tryz.prog 184 #[vSurf s d] (fun u H => OImg u (pictureOf s) H) W := by
  have hp : pictureOf s = fadedImg (rawPicture s) s.Alpha := by unfold pictureOf; rw [if_pos hok]
  have hr1 : s.W ≠ 0 → rawPicture s = scaled (oriented s.buf s.Orient) s.W s.H := fun e => by unfold rawPicture; rw [if_pos e]
  have hr2 : ¬ s.W ≠ 0 → rawPicture s = oriented s.buf s.Orient := fun e => by unfold rawPicture; rw [if_neg e]
  (first | apply SYields.mk | apply SYieldsF.mk | skip); refine s_enter Tryz.func184 rfl Tryz.ntmps184 rfl ?_
  repeat' (first | exact rfl | (apply kO; (first | exact ov_pure rfl | (apply kOBin; (first | exact aBin)) | (apply kOCall; (first | (apply kCallB; (first | exact aBlt | exact aLenR)))) | (apply kOLoad; (first | exact aLdF | exact aLdR)) | exact ov_fieldAddr rfl | (apply kOIdx; (first | exact aIdx)) | exact aRest | exact aNew | exact (ov_field1 (ft := 31) rfl rfl rfl rfl))) | (refine kN ?_; (first | (refine kCall ?_; (first | (refine kWFunc ?_; (refine s_callF (fun u H => OImg u (oriented s.buf s.Orient) H) rfl (fun w hw => c_ioriented s.buf _ _ w (riA hw)) rfl (fun u H hu => ?_); obtain ⟨d', rfl, hu⟩ := hu; have f1 := hu.form; obtain ⟨_, _, rfl⟩ := f1)) | (refine kWFunc ?_; (refine s_callF (fun u H => OImg u (scaled (oriented s.buf s.Orient) s.W s.H) H) rfl (fun w hw => c_iscaled (oriented s.buf s.Orient) _ _ _ w (riA hw)) rfl (fun u H hu => ?_); obtain ⟨d', rfl, hu⟩ := hu; have f1 := hu.form; obtain ⟨_, _, rfl⟩ := f1)) | (refine kWFn 218 ?_; (refine s_faded _ (scaled (oriented s.buf s.Orient) s.W s.H) rfl (by assumption) gpA rfl (fun H' hu => ?_))) | (refine kWFn 218 ?_; (refine s_faded _ (oriented s.buf s.Orient) rfl (by assumption) gpA rfl (fun H' hu => ?_))) | apply s_step)) | (refine kStore ?_; (first | refine s_store1 _ rfl rfl gpA rfl (by rfl) ?_ | refine s_storeS _ rfl rfl gpA rfl rfl (by rfl) ?_ | refine s_storeS _ rfl rfl gpA rfl (ones_img oiA) (by rfl) ?_)) | refine s_boxS rfl rfl (fun b hb => ?_) | refine s_allocS rfl (fun b hb => ?_) | refine s_box1 rfl rfl rfl (fun b hb => ?_) | refine s_alloc1 rfl rfl (fun b hb => ?_) | refine s_buildSlice0 rfl (fun b hb => ?_) | refine s_buildSlice rfl rfl rfl rfl rfl (fun b hb => ?_) | apply s_step)) | (refine kG ?_; (first | refine s_gyes rfl rfl rfl ?_ | refine s_gno rfl rfl rfl rfl rfl ?_ | ((first | refine s_split_d rfl rfl (fun h => ?_) (fun h => ?_) | refine s_split_n rfl rfl (fun h => ?_) (fun h => ?_)) <;> (try (first | contradiction | (exfalso; omega)))) | refine s_split_nb rfl rfl (fun h => ?_) (fun h => ?_) | refine s_split rfl rfl (fun h => ?_) (fun h => ?_))) | refine l_then ?_ | (refine kC ?_; (first | refine c_seq ?_ | refine c_regionN rfl ?_ | refine c_ret ?_ | (refine kCond ?_; (first | refine c_cond_t rfl ?_ | refine c_cond_f rfl ?_ | ((first | refine c_cond_d rfl (fun h => ?_) (fun h => ?_) | refine c_cond_n rfl (fun h => ?_) (fun h => ?_)) <;> (try (first | contradiction | (exfalso; omega)))) | refine c_cond_nb rfl (fun h => ?_) (fun h => ?_) | refine c_cond rfl (fun h => ?_) (fun h => ?_))) | refine c_block ?_ | refine c_skip ?_ | refine c_exit ?_ | refine c_regionQN rfl rfl (by decide +kernel) ?_)) | apply s_stepQ | (refine kQG ?_; (first | refine s_gyesQ rfl rfl rfl ?_ | refine s_gnoQ rfl rfl rfl rfl rfl ?_ | ((first | refine s_splitQ_d rfl rfl (fun h => ?_) (fun h => ?_) | refine s_splitQ_n rfl rfl (fun h => ?_) (fun h => ?_)) <;> (try (first | contradiction | (exfalso; omega)))) | refine s_splitQ_nb rfl rfl (fun h => ?_) (fun h => ?_) | refine s_splitQ rfl rfl (fun h => ?_) (fun h => ?_))) | refine lQ_then ?_ | refine lQ_ends ?_ | (refine kE ?_; (first | refine e_then_r ?_ | refine e_block_r ?_ | refine e_then_n ?_ | refine e_then_x ?_ | refine e_block_n ?_ | refine e_block_x ?_ | refine e_block_y rfl ?_)) | refine l_ends ?_)
  all_goals (refine kE ?_; refine s_leaveSF rfl rfl rfl fwA (fun w hw => ?_))
  all_goals (rw [hp]; first | rw [hr1 (by assumption)] | rw [hr2 (by assumption)])
  all_goals exact ⟨_, _, rfl, ⟨_, rfl, hu⟩, hw.toFresh gpA⟩
theorem c_spictureOf (s : DSurf) (d : Value) (W : World) (hd : RInts W d s.buf.data) : SYieldsF Tryz.prog 100 #[vSurf s d] (fun u H => OImg u (pictureOf s) H) W := by
  by_cases hok : s.ok
  · have hp : pictureOf s = fadedImg (rawPicture s) s.Alpha := by unfold pictureOf; rw [if_pos hok]
    have hsz := hok.2.2.2.1
    unfold DSurf.sized at hsz
    have hr1 : s.W ≠ 0 → rawPicture s = scaled (oriented s.buf s.Orient) s.W s.H := fun e => by unfold rawPicture; rw [if_pos e]
    have hr2 : ¬ s.W ≠ 0 → rawPicture s = oriented s.buf s.Orient := fun e => by unfold rawPicture; rw [if_neg e]
    have hml := fun l => mapFirst_length (fun p => fade p s.Alpha) l
    (first | apply SYields.mk | apply SYieldsF.mk | skip); refine s_enter Tryz.func100 rfl Tryz.ntmps100 rfl ?_
    repeat' (first | exact rfl | (apply kO; (first | exact ov_pure rfl | (apply kOBin; (first | exact aBin)) | (apply kOCall; (first | (apply kCallF; (first | exact (ov_call rfl (fun w hw => c_ssurfaceOk s _ w (riA hw))) | exact (ov_call rfl (fun w hw => c_sfade _ _ w)))) | (apply kCallB; (first | exact aBlt | exact (ov_lenR (fun w hw => (rrA hw)) rfl) | exact aLenR)))) | (apply kOLoad; (first | exact (ov_ldR0 (fun w hw => (rrA hw)) rfl rfl (by rw [hml]; omega) rfl) | exact aLdF | exact aLdR)) | exact ov_fieldAddr rfl | (apply kOIdx; (first | exact (ov_idxR (fun w hw => (rrA hw)) rfl rfl (by rw [hml]; omega)) | exact aIdx)) | exact aRest | exact aNew | exact (ov_field1 (ft := 31) rfl rfl rfl rfl))) | (refine kN ?_; (first | (refine kCall ?_; (first | (refine kWFunc ?_; (refine s_callF (fun u H => OImg u (oriented s.buf s.Orient) H) rfl (fun w hw => c_soriented s.buf _ _ w (riA hw)) rfl (fun u H hu => ?_); obtain ⟨d', rfl, hu⟩ := hu; have f1 := hu.form; obtain ⟨_, _, rfl⟩ := f1; have hul := hu.len)) | (refine kWFunc ?_; (refine s_callF (fun u H => OImg u (scaled (oriented s.buf s.Orient) s.W s.H) H) rfl (fun w hw => c_sscaled (oriented s.buf s.Orient) _ _ _ w (riA hw)) rfl (fun u H hu => ?_); obtain ⟨d', rfl, hu⟩ := hu; have f1 := hu.form; obtain ⟨_, _, rfl⟩ := f1; have hul := hu.len)) | apply s_step)) | (refine kStore ?_; (first | (refine s_setI _ rfl rfl (by assumption) gpA (by rw [hml]; omega) (fun H' hu => ?_)) | refine s_store1 _ rfl rfl gpA rfl (by rfl) ?_ | refine s_storeS _ rfl rfl gpA rfl rfl (by rfl) ?_ | refine s_storeS _ rfl rfl gpA rfl (ones_img oiA) (by rfl) ?_)) | refine s_boxS rfl rfl (fun b hb => ?_) | refine s_allocS rfl (fun b hb => ?_) | refine s_box1 rfl rfl rfl (fun b hb => ?_) | refine s_alloc1 rfl rfl (fun b hb => ?_) | refine s_buildSlice0 rfl (fun b hb => ?_) | refine s_buildSlice rfl rfl rfl rfl rfl (fun b hb => ?_) | apply s_step)) | (refine kG ?_; (first | refine s_gyes rfl rfl rfl ?_ | refine s_gno rfl rfl rfl rfl rfl ?_ | ((first | refine s_split_d rfl rfl (fun h => ?_) (fun h => ?_) | refine s_split_n rfl rfl (fun h => ?_) (fun h => ?_)) <;> (try (first | contradiction | (exfalso; omega)))) | refine s_split_nb rfl rfl (fun h => ?_) (fun h => ?_) | refine s_split rfl rfl (fun h => ?_) (fun h => ?_))) | (refine kS ?_; (first | refine h_exec rfl ?_ | refine h_take_nil rfl rfl rfl ?_ | refine h_take_pick rfl rfl rfl ?_ | refine h_nil ?_ | refine h_alt ?_ ?_ | apply h_take)) | (refine kBack ?_; (first | refine h_back_last rfl ?_ | refine h_backN rfl subA ?_)) | refine l_then ?_ | (refine kC ?_; (first | (refine kReg 9 ?_; refine c_regionSN (SPlan.take 0 (SPlan.take 1 (SPlan.take 2 (SPlan.take 3 (SPlan.take 4 (SPlan.take 5 (SPlan.take 6 (SPlan.take 7 (SPlan.take 8 (SPlan.take 9 (SPlan.run 10 (SPlan.take 11 (SPlan.run 12 SPlan.done))))))))))))) (some 12) rfl rfl (by decide +kernel) ?_) | (refine kReg 9 ?_; refine c_regionSN (SPlan.take 0 (SPlan.take 1 (SPlan.take 2 (SPlan.take 3 (SPlan.take 4 (SPlan.take 5 (SPlan.take 6 (SPlan.take 7 (SPlan.take 8 (SPlan.take 9 (SPlan.run 10 (SPlan.take 11 (SPlan.run 12 SPlan.done))))))))))))) none rfl rfl (by decide +kernel) ?_) | (refine c_loopV (ι := Nat × SPiece) (fun j => j.1 ≤ (scaled (oriented s.buf s.Orient) s.W s.H).data.length ∧ OInts 3 _ (mapFirst (fun p => fade p s.Alpha) (scaled (oriented s.buf s.Orient) s.W s.H).data j.1) j.2) (fun j => [(4, .int .i64 (j.1 : Int))]) (fun j => [j.2, _, _, _, _]) (fun j => (scaled (oriented s.buf s.Orient) s.W s.H).data.length - j.1) (0, _) ⟨by dsimp only; omega, by rw [mapFirst_zero]; assumption⟩ rfl (fun _ => rfl) ⟨rfl, trivial⟩ (fun w hw => hw) (fun j hj => ?_); obtain ⟨hj1, hj2⟩ := hj) | (refine c_loopV (ι := Nat × SPiece) (fun j => j.1 ≤ (oriented s.buf s.Orient).data.length ∧ OInts 3 _ (mapFirst (fun p => fade p s.Alpha) (oriented s.buf s.Orient).data j.1) j.2) (fun j => [(4, .int .i64 (j.1 : Int))]) (fun j => [_, j.2, _, _]) (fun j => (oriented s.buf s.Orient).data.length - j.1) (0, _) ⟨by dsimp only; omega, by rw [mapFirst_zero]; assumption⟩ rfl (fun _ => rfl) ⟨rfl, trivial⟩ (fun w hw => hw) (fun j hj => ?_); obtain ⟨hj1, hj2⟩ := hj) | refine c_seq ?_ | refine c_regionN rfl ?_ | refine c_ret ?_ | (refine kCond ?_; (first | refine c_cond_t rfl ?_ | refine c_cond_f rfl ?_ | ((first | refine c_cond_d rfl (fun h => ?_) (fun h => ?_) | refine c_cond_n rfl (fun h => ?_) (fun h => ?_)) <;> (try (first | contradiction | (exfalso; omega)))) | refine c_cond_nb rfl (fun h => ?_) (fun h => ?_) | refine c_cond rfl (fun h => ?_) (fun h => ?_))) | refine c_block ?_ | refine c_skip ?_ | refine c_exit ?_ | refine c_regionQN rfl rfl (by decide +kernel) ?_)) | apply s_stepQ | (refine kQG ?_; (first | refine s_gyesQ rfl rfl rfl ?_ | refine s_gnoQ rfl rfl rfl rfl rfl ?_ | ((first | refine s_splitQ_d rfl rfl (fun h => ?_) (fun h => ?_) | refine s_splitQ_n rfl rfl (fun h => ?_) (fun h => ?_)) <;> (try (first | contradiction | (exfalso; omega)))) | refine s_splitQ_nb rfl rfl (fun h => ?_) (fun h => ?_) | refine s_splitQ rfl rfl (fun h => ?_) (fun h => ?_))) | refine lQ_then ?_ | refine lQ_ends ?_ | (refine kE ?_; (first | refine e_then_r ?_ | refine e_block_r ?_ | refine e_then_n ?_ | refine e_then_x ?_ | refine e_block_n ?_ | refine e_block_x ?_ | refine e_block_y rfl ?_)) | refine l_ends ?_)
    · have hs := mapFirst_set (fun p => fade p s.Alpha) (scaled (oriented s.buf s.Orient) s.W s.H).data (j := j.1) (by omega)
      rw [Int.toNat_natCast, mapFirst_get _ _ (by omega), hs] at hu
      exact e_round (j.1 + 1, H') ⟨by dsimp only; omega, hu⟩ ⟨rfl, (by repeat' first | exact trivial | refine ⟨rfl, ?_⟩)⟩ (fun w hw => hw) (by dsimp only; omega)
    · rw [mapFirst_all _ _ (by omega)] at hj2
      refine s_leaveSF rfl rfl rfl fwA (fun w hw => ⟨_, _, rfl, ?_, hw.toFresh (H := j.2) gpA⟩)
      rw [hp, hr1 (by omega)]
      exact ⟨_, rfl, hj2⟩
    · have hs := mapFirst_set (fun p => fade p s.Alpha) (oriented s.buf s.Orient).data (j := j.1) (by omega)
      rw [Int.toNat_natCast, mapFirst_get _ _ (by omega), hs] at hu
      exact e_round (j.1 + 1, H') ⟨by dsimp only; omega, hu⟩ ⟨rfl, (by repeat' first | exact trivial | refine ⟨rfl, ?_⟩)⟩ (fun w hw => hw) (by dsimp only; omega)
    · rw [mapFirst_all _ _ (by omega)] at hj2
      refine s_leaveSF rfl rfl rfl fwA (fun w hw => ⟨_, _, rfl, ?_, hw.toFresh (H := j.2) gpA⟩)
      rw [hp, hr2 (by omega)]
      exact ⟨_, rfl, hj2⟩
  · (first | apply SYields.mk | apply SYieldsF.mk | skip); refine s_enter Tryz.func100 rfl Tryz.ntmps100 rfl ?_
    repeat' (first | exact rfl | (apply kO; (first | exact ov_pure rfl | (apply kOBin; (first | exact aBin)) | (apply kOCall; (first | (apply kCallF; (first | exact (ov_call rfl (fun w hw => c_ssurfaceOk s _ w (riA hw))))) | (apply kCallB; (first | exact aBlt | exact aLenR)))) | (apply kOLoad; (first | exact aLdF | exact aLdR)) | exact ov_fieldAddr rfl | (apply kOIdx; (first | exact aIdx)) | exact aRest | exact aNew | exact (ov_field1 (ft := 31) rfl rfl rfl rfl))) | (refine kN ?_; (first | (refine kStore ?_; (first | refine s_store1 _ rfl rfl gpA rfl (by rfl) ?_ | refine s_storeS _ rfl rfl gpA rfl rfl (by rfl) ?_ | refine s_storeS _ rfl rfl gpA rfl (ones_img oiA) (by rfl) ?_)) | refine s_boxS rfl rfl (fun b hb => ?_) | refine s_allocS rfl (fun b hb => ?_) | refine s_box1 rfl rfl rfl (fun b hb => ?_) | refine s_alloc1 rfl rfl (fun b hb => ?_) | refine s_buildSlice0 rfl (fun b hb => ?_) | refine s_buildSlice rfl rfl rfl rfl rfl (fun b hb => ?_) | apply s_step)) | (refine kG ?_; (first | refine s_gyes rfl rfl rfl ?_ | refine s_gno rfl rfl rfl rfl rfl ?_ | ((first | refine s_split_d rfl rfl (fun h => ?_) (fun h => ?_) | refine s_split_n rfl rfl (fun h => ?_) (fun h => ?_)) <;> (try (first | contradiction | (exfalso; omega)))) | refine s_split_nb rfl rfl (fun h => ?_) (fun h => ?_) | refine s_split rfl rfl (fun h => ?_) (fun h => ?_))) | refine l_then ?_ | (refine kC ?_; (first | refine c_seq ?_ | refine c_regionN rfl ?_ | refine c_ret ?_ | (refine kCond ?_; (first | refine c_cond_t rfl ?_ | refine c_cond_f rfl ?_ | ((first | refine c_cond_d rfl (fun h => ?_) (fun h => ?_) | refine c_cond_n rfl (fun h => ?_) (fun h => ?_)) <;> (try (first | contradiction | (exfalso; omega)))) | refine c_cond_nb rfl (fun h => ?_) (fun h => ?_) | refine c_cond rfl (fun h => ?_) (fun h => ?_))) | refine c_block ?_ | refine c_skip ?_ | refine c_exit ?_ | refine c_regionQN rfl rfl (by decide +kernel) ?_)) | apply s_stepQ | (refine kQG ?_; (first | refine s_gyesQ rfl rfl rfl ?_ | refine s_gnoQ rfl rfl rfl rfl rfl ?_ | ((first | refine s_splitQ_d rfl rfl (fun h => ?_) (fun h => ?_) | refine s_splitQ_n rfl rfl (fun h => ?_) (fun h => ?_)) <;> (try (first | contradiction | (exfalso; omega)))) | refine s_splitQ_nb rfl rfl (fun h => ?_) (fun h => ?_) | refine s_splitQ rfl rfl (fun h => ?_) (fun h => ?_))) | refine lQ_then ?_ | refine lQ_ends ?_ | (refine kE ?_; (first | refine e_then_r ?_ | refine e_block_r ?_ | refine e_then_n ?_ | refine e_then_x ?_ | refine e_block_n ?_ | refine e_block_x ?_ | refine e_block_y rfl ?_)) | refine l_ends ?_)
    all_goals (refine kE ?_; refine s_leaveSF rfl rfl rfl fwA (fun w hw => ?_))
    all_goals (unfold pictureOf; rw [if_neg hok]; exact ⟨_, [], rfl, ⟨_, rfl, OInts.nil _⟩, hw.toFresh0⟩)
theorem c_iisOpaque (s : DSurf) (d : Value) (W : World) (hd : RInts W d s.buf.data) : SYields Tryz.prog 183 #[vSurf s d] (.bool (decide (isOpaqueS s))) W := by
  (first | apply SYields.mk | apply SYieldsF.mk | skip); refine s_enter Tryz.func183 rfl Tryz.ntmps183 rfl ?_
  repeat' (first | exact rfl | (apply kO; (first | exact ov_pure rfl | (apply kOBin; (first | exact aBin)) | (apply kOCall; (first | (apply kCallF; (first | exact (ov_call rfl (fun w hw => c_isurfaceOk s _ w (riA hw))) | exact (ov_call rfl (fun w hw => c_isOpaquePixel _ w)))) | (apply kCallB; (first | exact aBlt | exact aLenR)))) | (apply kOLoad; (first | exact aLdF | exact aLdR)) | exact ov_fieldAddr rfl | (apply kOIdx; (first | exact aIdx)) | exact aRest | exact aNew | exact (ov_field1 (ft := 31) rfl rfl rfl rfl))) | (refine kN ?_; (first | (refine kCall ?_; (first | (refine kWFunc ?_; (refine s_callF (fun u H => OImg u (pictureOf s) H) rfl (fun w hw => c_surfacePicture s _ w (by assumption) (riA hw)) rfl (fun u H hu => ?_); obtain ⟨d', rfl, hu⟩ := hu; have f1 := hu.form; obtain ⟨_, _, rfl⟩ := f1; have hpl := hu.len)) | apply s_step)) | (refine kStore ?_; (first | refine s_store1 _ rfl rfl gpA rfl (by rfl) ?_ | refine s_storeS _ rfl rfl gpA rfl rfl (by rfl) ?_ | refine s_storeS _ rfl rfl gpA rfl (ones_img oiA) (by rfl) ?_)) | refine s_boxS rfl rfl (fun b hb => ?_) | refine s_allocS rfl (fun b hb => ?_) | refine s_box1 rfl rfl rfl (fun b hb => ?_) | refine s_alloc1 rfl rfl (fun b hb => ?_) | refine s_buildSlice0 rfl (fun b hb => ?_) | refine s_buildSlice rfl rfl rfl rfl rfl (fun b hb => ?_) | apply s_step)) | (refine kG ?_; (first | refine s_gyes rfl rfl rfl ?_ | refine s_gno rfl rfl rfl rfl rfl ?_ | ((first | refine s_split_d rfl rfl (fun h => ?_) (fun h => ?_) | refine s_split_n rfl rfl (fun h => ?_) (fun h => ?_)) <;> (try (first | contradiction | (exfalso; omega)))) | refine s_split_nb rfl rfl (fun h => ?_) (fun h => ?_) | refine s_split rfl rfl (fun h => ?_) (fun h => ?_))) | refine l_then ?_ | (refine kC ?_; (first | (refine c_loopV (ι := Nat) (fun j => j ≤ (pictureOf s).data.length ∧ inTo 4278190080 4294967295 (pictureOf s).data j) (fun j => [(12, .int .i64 (j : Int))]) (fun _ => [_, _]) (fun j => (pictureOf s).data.length - j) 0 ⟨by omega, inTo_zero _ _ _⟩ rfl (fun _ => rfl) ⟨rfl, trivial⟩ (fun w hw => hw) (fun j hj => ?_)) | refine c_seq ?_ | refine c_regionN rfl ?_ | refine c_ret ?_ | (refine kCond ?_; (first | refine c_cond_t rfl ?_ | refine c_cond_f rfl ?_ | ((first | refine c_cond_d rfl (fun h => ?_) (fun h => ?_) | refine c_cond_n rfl (fun h => ?_) (fun h => ?_)) <;> (try (first | contradiction | (exfalso; omega)))) | refine c_cond_nb rfl (fun h => ?_) (fun h => ?_) | refine c_cond rfl (fun h => ?_) (fun h => ?_))) | refine c_block ?_ | refine c_skip ?_ | refine c_exit ?_ | refine c_regionQN rfl rfl (by decide +kernel) ?_)) | apply s_stepQ | (refine kQG ?_; (first | refine s_gyesQ rfl rfl rfl ?_ | refine s_gnoQ rfl rfl rfl rfl rfl ?_ | ((first | refine s_splitQ_d rfl rfl (fun h => ?_) (fun h => ?_) | refine s_splitQ_n rfl rfl (fun h => ?_) (fun h => ?_)) <;> (try (first | contradiction | (exfalso; omega)))) | refine s_splitQ_nb rfl rfl (fun h => ?_) (fun h => ?_) | refine s_splitQ rfl rfl (fun h => ?_) (fun h => ?_))) | refine lQ_then ?_ | refine lQ_ends ?_ | (refine kE ?_; (first | refine e_then_r ?_ | refine e_block_r ?_ | refine e_then_n ?_ | refine e_then_x ?_ | refine e_block_n ?_ | refine e_block_x ?_ | refine e_block_y rfl ?_)) | refine l_ends ?_)
  · exact s_leave1 rfl rfl (fun w hw => ⟨ret_false (fun hh => absurd hh.1 (by assumption)), hw.below⟩)
  · exact s_leave1 rfl rfl (fun w hw => ⟨ret_false (fun hh => absurd ((opaqueP_iff _).2 (hh.2 j (by omega))) (by assumption)), hw.below⟩)
  · exact e_round (j + 1) ⟨by omega, inTo_next hj.2 ((opaqueP_iff _).1 (by assumption))⟩ ⟨rfl, (by repeat' first | exact trivial | refine ⟨rfl, ?_⟩)⟩ (fun w hw => hw) (by omega)
  · exact s_leave1 rfl rfl (fun w hw => ⟨ret_true ⟨by assumption, fun q hq => hj.2 q (by omega)⟩, hw.below⟩)
theorem c_sisOpaque (s : DSurf) (d : Value) (W : World) (hd : RInts W d s.buf.data) : SYields Tryz.prog 176 #[vSurf s d] (.bool (decide (isOpaqueS s))) W := by
  by_cases hok : s.ok
  · have hpk := pictureOf_ok hok
    have hpx := fun k => hpk.pix k
    (first | apply SYields.mk | apply SYieldsF.mk | skip); refine s_enter Tryz.func176 rfl Tryz.ntmps176 rfl ?_
    repeat' (first | exact rfl | (apply kO; (first | exact ov_pure rfl | (apply kOBin; (first | exact aBin)) | (apply kOCall; (first | (apply kCallF; (first | exact (ov_call rfl (fun w hw => c_ssurfaceOk s _ w (riA hw))) | exact (ov_call rfl (fun w hw => c_schannelIn _ _ w (hpx _) (by omega))))) | (apply kCallB; (first | exact aBlt | exact aLenR)))) | (apply kOLoad; (first | exact aLdF | exact aLdR)) | exact ov_fieldAddr rfl | (apply kOIdx; (first | exact aIdx)) | exact aRest | exact aNew | exact (ov_field1 (ft := 31) rfl rfl rfl rfl))) | (refine kN ?_; (first | (refine kCall ?_; (first | (refine kWFunc ?_; (refine s_callF (fun u H => OImg u (pictureOf s) H) rfl (fun w hw => c_spictureOf s _ w (riA hw)) rfl (fun u H hu => ?_); obtain ⟨d', rfl, hu⟩ := hu; have f1 := hu.form; obtain ⟨_, _, rfl⟩ := f1; have hpl := hu.len)) | apply s_step)) | (refine kStore ?_; (first | refine s_store1 _ rfl rfl gpA rfl (by rfl) ?_ | refine s_storeS _ rfl rfl gpA rfl rfl (by rfl) ?_ | refine s_storeS _ rfl rfl gpA rfl (ones_img oiA) (by rfl) ?_)) | refine s_boxS rfl rfl (fun b hb => ?_) | refine s_allocS rfl (fun b hb => ?_) | refine s_box1 rfl rfl rfl (fun b hb => ?_) | refine s_alloc1 rfl rfl (fun b hb => ?_) | refine s_buildSlice0 rfl (fun b hb => ?_) | refine s_buildSlice rfl rfl rfl rfl rfl (fun b hb => ?_) | apply s_step)) | (refine kG ?_; (first | refine s_gyes rfl rfl rfl ?_ | refine s_gno rfl rfl rfl rfl rfl ?_ | ((first | refine s_split_d rfl rfl (fun h => ?_) (fun h => ?_) | refine s_split_n rfl rfl (fun h => ?_) (fun h => ?_)) <;> (try (first | contradiction | (exfalso; omega)))) | refine s_split_nb rfl rfl (fun h => ?_) (fun h => ?_) | refine s_split rfl rfl (fun h => ?_) (fun h => ?_))) | refine l_then ?_ | (refine kC ?_; (first | (refine c_loopV (ι := Nat) (fun j => j ≤ (pictureOf s).data.length ∧ inTo 4278190080 4294967295 (pictureOf s).data j) (fun j => [(4, .int .i64 (j : Int))]) (fun _ => [_, _, _]) (fun j => (pictureOf s).data.length - j) 0 ⟨by omega, inTo_zero _ _ _⟩ rfl (fun _ => rfl) ⟨rfl, trivial⟩ (fun w hw => hw) (fun j hj => ?_)) | refine c_seq ?_ | refine c_regionN rfl ?_ | refine c_ret ?_ | (refine kCond ?_; (first | refine c_cond_t rfl ?_ | refine c_cond_f rfl ?_ | ((first | refine c_cond_d rfl (fun h => ?_) (fun h => ?_) | refine c_cond_n rfl (fun h => ?_) (fun h => ?_)) <;> (try (first | contradiction | (exfalso; omega)))) | refine c_cond_nb rfl (fun h => ?_) (fun h => ?_) | refine c_cond rfl (fun h => ?_) (fun h => ?_))) | refine c_block ?_ | refine c_skip ?_ | refine c_exit ?_ | refine c_regionQN rfl rfl (by decide +kernel) ?_)) | apply s_stepQ | (refine kQG ?_; (first | refine s_gyesQ rfl rfl rfl ?_ | refine s_gnoQ rfl rfl rfl rfl rfl ?_ | ((first | refine s_splitQ_d rfl rfl (fun h => ?_) (fun h => ?_) | refine s_splitQ_n rfl rfl (fun h => ?_) (fun h => ?_)) <;> (try (first | contradiction | (exfalso; omega)))) | refine s_splitQ_nb rfl rfl (fun h => ?_) (fun h => ?_) | refine s_splitQ rfl rfl (fun h => ?_) (fun h => ?_))) | refine lQ_then ?_ | refine lQ_ends ?_ | (refine kE ?_; (first | refine e_then_r ?_ | refine e_block_r ?_ | refine e_then_n ?_ | refine e_then_x ?_ | refine e_block_n ?_ | refine e_block_x ?_ | refine e_block_y rfl ?_)) | refine l_ends ?_)
    all_goals try simp only [Int.toNat_natCast] at *
    · exact s_leave1 rfl rfl (fun w hw => ⟨ret_false (fun hh => absurd ((opaqueP_iff _).2 (hh.2 j (by omega))).2 (by assumption)), hw.below⟩)
    · exact e_round (j + 1) ⟨by omega, inTo_next hj.2 ((opaqueP_iff _).1 ⟨hpx j, by omega⟩)⟩ ⟨rfl, (by repeat' first | exact trivial | refine ⟨rfl, ?_⟩)⟩ (fun w hw => hw) (by omega)
    · exact s_leave1 rfl rfl (fun w hw => ⟨ret_dec ⟨fun hh => ⟨hh, fun q hq => hj.2 q (by omega)⟩, fun hh => hh.1⟩, hw.below⟩)
  · have hz : pictureOf s = DImg.zero := by unfold pictureOf; rw [if_neg hok]
    have hz0 : (pictureOf s).data.length = 0 := by rw [hz]; rfl
    (first | apply SYields.mk | apply SYieldsF.mk | skip); refine s_enter Tryz.func176 rfl Tryz.ntmps176 rfl ?_
    repeat' (first | exact rfl | (apply kO; (first | exact ov_pure rfl | (apply kOBin; (first | exact aBin)) | (apply kOCall; (first | (apply kCallF; (first | exact (ov_call rfl (fun w hw => c_ssurfaceOk s _ w (riA hw))))) | (apply kCallB; (first | exact aBlt | exact aLenR)))) | (apply kOLoad; (first | exact aLdF | exact aLdR)) | exact ov_fieldAddr rfl | (apply kOIdx; (first | exact aIdx)) | exact aRest | exact aNew | exact (ov_field1 (ft := 31) rfl rfl rfl rfl))) | (refine kN ?_; (first | (refine kCall ?_; (first | (refine kWFunc ?_; (refine s_callF (fun u H => OImg u (pictureOf s) H) rfl (fun w hw => c_spictureOf s _ w (riA hw)) rfl (fun u H hu => ?_); obtain ⟨d', rfl, hu⟩ := hu; have f1 := hu.form; obtain ⟨_, _, rfl⟩ := f1; have hpl := hu.len)) | apply s_step)) | (refine kStore ?_; (first | refine s_store1 _ rfl rfl gpA rfl (by rfl) ?_ | refine s_storeS _ rfl rfl gpA rfl rfl (by rfl) ?_ | refine s_storeS _ rfl rfl gpA rfl (ones_img oiA) (by rfl) ?_)) | refine s_boxS rfl rfl (fun b hb => ?_) | refine s_allocS rfl (fun b hb => ?_) | refine s_box1 rfl rfl rfl (fun b hb => ?_) | refine s_alloc1 rfl rfl (fun b hb => ?_) | refine s_buildSlice0 rfl (fun b hb => ?_) | refine s_buildSlice rfl rfl rfl rfl rfl (fun b hb => ?_) | apply s_step)) | (refine kG ?_; (first | refine s_gyes rfl rfl rfl ?_ | refine s_gno rfl rfl rfl rfl rfl ?_ | ((first | refine s_split_d rfl rfl (fun h => ?_) (fun h => ?_) | refine s_split_n rfl rfl (fun h => ?_) (fun h => ?_)) <;> (try (first | contradiction | (exfalso; omega)))) | refine s_split_nb rfl rfl (fun h => ?_) (fun h => ?_) | refine s_split rfl rfl (fun h => ?_) (fun h => ?_))) | refine l_then ?_ | (refine kC ?_; (first | (refine c_loopV (ι := Nat) (fun j => j = 0) (fun j => [(4, .int .i64 (j : Int))]) (fun _ => [_, _, _]) (fun j => (pictureOf s).data.length - j) 0 rfl rfl (fun _ => rfl) ⟨rfl, trivial⟩ (fun w hw => hw) (fun j hj => ?_)) | refine c_seq ?_ | refine c_regionN rfl ?_ | refine c_ret ?_ | (refine kCond ?_; (first | refine c_cond_t rfl ?_ | refine c_cond_f rfl ?_ | ((first | refine c_cond_d rfl (fun h => ?_) (fun h => ?_) | refine c_cond_n rfl (fun h => ?_) (fun h => ?_)) <;> (try (first | contradiction | (exfalso; omega)))) | refine c_cond_nb rfl (fun h => ?_) (fun h => ?_) | refine c_cond rfl (fun h => ?_) (fun h => ?_))) | refine c_block ?_ | refine c_skip ?_ | refine c_exit ?_ | refine c_regionQN rfl rfl (by decide +kernel) ?_)) | apply s_stepQ | (refine kQG ?_; (first | refine s_gyesQ rfl rfl rfl ?_ | refine s_gnoQ rfl rfl rfl rfl rfl ?_ | ((first | refine s_splitQ_d rfl rfl (fun h => ?_) (fun h => ?_) | refine s_splitQ_n rfl rfl (fun h => ?_) (fun h => ?_)) <;> (try (first | contradiction | (exfalso; omega)))) | refine s_splitQ_nb rfl rfl (fun h => ?_) (fun h => ?_) | refine s_splitQ rfl rfl (fun h => ?_) (fun h => ?_))) | refine lQ_then ?_ | refine lQ_ends ?_ | (refine kE ?_; (first | refine e_then_r ?_ | refine e_block_r ?_ | refine e_then_n ?_ | refine e_then_x ?_ | refine e_block_n ?_ | refine e_block_x ?_ | refine e_block_y rfl ?_)) | refine l_ends ?_)
    all_goals exact s_leave1 rfl rfl (fun w hw => ⟨ret_dec ⟨fun hh => absurd hh hok, fun hh => hh.1⟩, hw.below⟩)
end Go.Proofs.YtfmjeakcfmmkfaaGreat
/-
  Contracts: a scene painted by the program.
-/
set_option linter.unusedVariables false
namespace Go.Proofs.YtfmjeakcfmmkfaaGreat
open Go Sx
attribute [local irreducible] Exit.then Exit.inBlock bodyPost oriented scaled pictureOf rawPicture
theorem apart_new {s w : World} {L : SHeap} {i : Nat} {H : SPiece} {v : Value} {l : List Int} (hw : SSt [] s L w) (hL : getL L i = some H) (hv : RInts s v l) (hne : 0 < l.length) : Apart H.keys v := by
  unfold Apart
  intro hm
  obtain ⟨⟨k, o⟩, h1, h2⟩ := List.mem_map.1 hm
  have h3 := hv.cell 0 hne 0 _ rfl
  have h4 := World.block_lt_of_cell? s _ h3
  have h5 := (hw.blocks k o (getL_flat hL h1)).1
  simp only [List.not_mem_nil, false_or] at h5
  dsimp only at h2 h4
  omega
theorem pic_len {s : DSurf} (h : s.ok) : (pictureOf s).data.length = ((surfSize s).1 * (surfSize s).2).toNat := by
  have h1 := surfSize_pic h
  rw [(pictureOf_ok h).lenN, h1.1, h1.2]
/-- the first j rows of a rectangle -/
def rowsG (r : DRect) (j : Nat) : Grid := fun y x => r.holds y x && decide ((y : Int) < r.Y + j)
theorem rowsG_zero (r : DRect) : (rowsG r 0).eqv Grid.none := fun y x hy hx => by
  unfold rowsG DRect.holds Grid.none
  rw [← Bool.decide_and]; exact decide_eq_false (fun hh => by have h1 := hh.1.2; have h2 := hh.2; omega)
theorem rowsG_next {r : DRect} (h : r.ok) (h0 : 0 ≤ r.X ∧ 0 ≤ r.Y) {j : Nat} (hj : (j : Int) < r.H) : (Grid.row (rowsG r j) (r.Y + j).toNat (fun i => decide (r.X.toNat ≤ i ∧ i < r.X.toNat + r.W.toNat))).eqv (rowsG r (j + 1)) := fun y x hy hx => by
  have h' := h
  unfold DRect.ok at h'
  unfold Grid.row rowsG DRect.holds
  by_cases e : y = (r.Y + j).toNat
  · subst e
    rw [if_pos rfl, ← Bool.decide_and]
    exact decide_eq_decide.2 ⟨fun hh => ⟨⟨h, by omega⟩, by push_cast; omega⟩, fun hh => by have h1 := hh.1.2; omega⟩
  · rw [if_neg e, ← Bool.decide_and, ← Bool.decide_and]
    exact decide_eq_decide.2 ⟨fun hh => ⟨hh.1, by push_cast; omega⟩, fun hh => ⟨hh.1, by have h1 := hh.2; have h2 := hh.1.2; push_cast at h1; omega⟩⟩
theorem rowsG_all {r : DRect} {j : Nat} (hj : r.H ≤ (j : Int)) : (rowsG r j).eqv (rectG r) := fun y x hy hx => by
  unfold rowsG rectG DRect.holds
  rw [← Bool.decide_and]
  exact decide_eq_decide.2 ⟨fun hh => hh.1, fun hh => ⟨hh, by have := hh.2; omega⟩⟩
theorem inter_screen_in (r : DRect) : 0 ≤ (r.inter DRect.screen).X ∧ 0 ≤ (r.inter DRect.screen).Y ∧ 0 ≤ (r.inter DRect.screen).W ∧ 0 ≤ (r.inter DRect.screen).H ∧ (r.inter DRect.screen).X + (r.inter DRect.screen).W ≤ 16 ∧ (r.inter DRect.screen).Y + (r.inter DRect.screen).H ≤ 16 := by
  by_cases h : r.ok
  · unfold DRect.inter
    rw [if_pos ⟨h, screen_ok⟩]
    unfold DRect.ok at h
    split
    · unfold DRect.zero; dsimp only; omega
    · rename_i hh; unfold DRect.screen at hh ⊢; dsimp only at hh ⊢; omega
  · rw [inter_not (.inl h)]; unfold DRect.zero; dsimp only; omega
theorem span_val {X W : Int} (h1 : 0 ≤ X) (h2 : 0 ≤ W) (h3 : X + W ≤ 16) : (((2 ^ W.toNat : Nat) : Int) - 1) * 2 ^ X.toNat = (Sx.bits (fun i => decide (X.toNat ≤ i ∧ i < X.toNat + W.toNat)) 16 : Nat) := by
  rw [← bits_span (X := X.toNat) (W := W.toNat) (n := 16) (by omega)]
  have : 1 ≤ 2 ^ W.toNat := Nat.pow_pos (by omega)
  push_cast [this]
  rfl
section
variable {P : Program} {n : Nat} {lo : SMut} {s : World} {E : SEnv} {L : SHeap} {d : Option Tmp} {ty : TypeId} {pos : String} {after : Array Edge} {g0 : Option (Nat × Bool)} {x y : Operand} {xt yt : TypeId}
theorem ov_span {kj : IntKind} {X W : Int} (hx : sval E x = some (.int .i64 (((2 ^ W.toNat : Nat) : Int) - 1))) (hy : sval E y = some (.int kj X)) (h1 : 0 ≤ X) (h2 : 0 ≤ W) (h3 : X + W ≤ 16) :
    SOpV P n lo s E L ⟨d, .binOp .shl xt x y yt, ty, pos, after, g0⟩ (.int .i64 (Sx.bits (fun i => decide (X.toNat ≤ i ∧ i < X.toNat + W.toNat)) 16 : Nat)) := by
  have hb := bits16 (fun i => decide (X.toNat ≤ i ∧ i < X.toNat + W.toNat))
  rw [← span_val h1 h2 h3] at hb ⊢
  exact ov_shl hx hy (by omega) (by omega)
end
theorem pow_bd {j : Int} (h : 0 ≤ j ∧ j ≤ 16) : 1 ≤ ((2 ^ j.toNat : Nat) : Int) ∧ ((2 ^ j.toNat : Nat) : Int) ≤ 65536 := by
  have h1 : 2 ^ j.toNat ≤ 2 ^ 16 := Nat.pow_le_pow_right (by omega) (by omega)
  have h2 : 0 < 2 ^ j.toNat := Nat.pow_pos (by omega)
  have hm : ∀ m : Nat, 0 < m → m ≤ 2 ^ 16 → 1 ≤ (m : Int) ∧ (m : Int) ≤ 65536 := fun m a b => by omega
  exact hm _ h2 h1
theorem mapTo_pixD {f : Int → Int → Int} (h : ∀ x y, pixP (f x y)) (w : Int) (n q : Nat) : pixP ((mapTo f w n).getD q 0) := by
  by_cases e : q < n
  · rw [mapTo_get f w e]; exact h _ _
  · rw [List.getD_eq_getElem?_getD, List.getElem?_eq_none (by rw [mapTo_length]; omega)]; unfold pixP; simp
theorem c_gridOf (r0 : DRect) (w : World) : SYields Tryz.prog 102 #[vRect r0] (gval (rectG r0)) w := by
  rw [← gval_congr (inter_screen (r := r0))]
  have hin := inter_screen_in r0
  have hok : (r0.inter DRect.screen).ok := by unfold DRect.ok; omega
  (first | apply SYields.mk | apply SYieldsF.mk | skip); refine s_enter Tryz.func102 rfl Tryz.ntmps102 rfl ?_
  repeat' (first | exact rfl | (apply kO; (first | exact ov_pure rfl | (apply kOBin; (first | exact aBin | exact (ov_sub rfl rfl (by have := pow_bd (j := (r0.inter DRect.screen).W) (by omega); omega)))) | (apply kOCall; (first | (apply kCallF; (first | exact (ov_call rfl (fun w hw => c_iintersect r0 DRect.screen w)))) | (apply kCallB; (first | exact aBlt | exact aLenR)))) | (apply kOLoad; (first | exact aLdF | exact aLdR)) | exact ov_fieldAddr rfl | (apply kOIdx; (first | exact (ov_indexAddrA rfl rfl (by omega)) | exact aIdx)) | exact aRest | exact (ov_bit rfl rfl (by omega)) | exact (ov_span rfl rfl (by omega) (by omega) (by omega)) | exact (ov_buildA0) | exact aNew | exact (ov_field1 (ft := 31) rfl rfl rfl rfl))) | (refine kN ?_; (first | (refine kStore ?_; (first | (refine s_setR _ rfl rfl gpA rfl (by simp [gl]; omega) ?_) | refine s_store1 _ rfl rfl gpA rfl (by rfl) ?_ | refine s_storeS _ rfl rfl gpA rfl rfl (by rfl) ?_ | refine s_storeS _ rfl rfl gpA rfl (ones_img oiA) (by rfl) ?_)) | refine s_boxS rfl rfl (fun b hb => ?_) | refine s_allocS rfl (fun b hb => ?_) | refine s_box1 rfl rfl rfl (fun b hb => ?_) | refine s_alloc1 rfl rfl (fun b hb => ?_) | refine s_buildSlice0 rfl (fun b hb => ?_) | refine s_buildSlice rfl rfl rfl rfl rfl (fun b hb => ?_) | apply s_step)) | (refine kG ?_; (first | refine s_gyes rfl rfl rfl ?_ | refine s_gno rfl rfl rfl rfl rfl ?_ | ((first | refine s_split_d rfl rfl (fun h => ?_) (fun h => ?_) | refine s_split_n rfl rfl (fun h => ?_) (fun h => ?_)) <;> (try (first | contradiction | (exfalso; omega)))) | refine s_split_nb rfl rfl (fun h => ?_) (fun h => ?_) | refine s_split rfl rfl (fun h => ?_) (fun h => ?_))) | (refine kS ?_; (first | refine h_exec rfl ?_ | refine h_take_nil rfl rfl rfl ?_ | refine h_take_pick rfl rfl rfl ?_ | refine h_nil ?_ | refine h_alt ?_ ?_ | apply h_take)) | (refine kBack ?_; (first | refine h_back_last rfl ?_ | refine h_backN rfl subA ?_)) | refine l_then ?_ | (refine kC ?_; (first | (refine kReg 6 ?_; refine c_regionSN (SPlan.take 0 (SPlan.take 1 (SPlan.take 2 (SPlan.take 3 (SPlan.take 4 (SPlan.take 5 (SPlan.take 6 (SPlan.take 7 (SPlan.take 8 (SPlan.run 9 SPlan.done)))))))))) (some 9) rfl rfl (by decide +kernel) ?_) | (refine kReg 6 ?_; refine c_regionSN (SPlan.take 0 (SPlan.take 1 (SPlan.take 2 (SPlan.take 3 (SPlan.take 4 (SPlan.take 5 (SPlan.take 6 (SPlan.take 7 (SPlan.take 8 (SPlan.run 9 SPlan.done)))))))))) none rfl rfl (by decide +kernel) ?_) | (refine c_loopV (ι := Nat) (fun j => (j : Int) ≤ (r0.inter DRect.screen).H) (fun j => [(4, .int .i64 ((r0.inter DRect.screen).Y + j))]) (fun j => [[(_, srow (gl (rowsG (r0.inter DRect.screen) j)) _)], _, _]) (fun j => (r0.inter DRect.screen).H.toNat - j) 0 (by omega) rfl (fun _ => rfl) ⟨slook_to rfl (vint_to (by simp)), trivial⟩ (fun w hw => by rw [gl_congr (rowsG_zero _)]; exact hw) (fun j hj => ?_)) | refine c_seq ?_ | refine c_regionN rfl ?_ | refine c_ret ?_ | (refine kCond ?_; (first | refine c_cond_t rfl ?_ | refine c_cond_f rfl ?_ | ((first | refine c_cond_d rfl (fun h => ?_) (fun h => ?_) | refine c_cond_n rfl (fun h => ?_) (fun h => ?_)) <;> (try (first | contradiction | (exfalso; omega)))) | refine c_cond_nb rfl (fun h => ?_) (fun h => ?_) | refine c_cond rfl (fun h => ?_) (fun h => ?_))) | refine c_block ?_ | refine c_skip ?_ | refine c_exit ?_ | refine c_regionQN rfl rfl (by decide +kernel) ?_)) | apply s_stepQ | (refine kQG ?_; (first | refine s_gyesQ rfl rfl rfl ?_ | refine s_gnoQ rfl rfl rfl rfl rfl ?_ | ((first | refine s_splitQ_d rfl rfl (fun h => ?_) (fun h => ?_) | refine s_splitQ_n rfl rfl (fun h => ?_) (fun h => ?_)) <;> (try (first | contradiction | (exfalso; omega)))) | refine s_splitQ_nb rfl rfl (fun h => ?_) (fun h => ?_) | refine s_splitQ rfl rfl (fun h => ?_) (fun h => ?_))) | refine lQ_then ?_ | refine lQ_ends ?_ | (refine kE ?_; (first | refine e_then_r ?_ | refine e_block_r ?_ | refine e_then_n ?_ | refine e_then_x ?_ | refine e_block_n ?_ | refine e_block_x ?_ | refine e_block_y rfl ?_)) | refine l_ends ?_)
  · refine e_round (j + 1) (by push_cast; omega) ⟨slook_to rfl (vint_to (by push_cast; omega)), (by repeat' first | exact trivial | refine ⟨rfl, ?_⟩)⟩ (fun w hw => ?_) (by omega)
    have e : (gl (rowsG (r0.inter DRect.screen) j)).set (0 + ((r0.inter DRect.screen).Y + j).toNat * 1) (.int .i64 (Sx.bits (fun i => decide ((r0.inter DRect.screen).X.toNat ≤ i ∧ i < (r0.inter DRect.screen).X.toNat + (r0.inter DRect.screen).W.toNat)) 16 : Nat)) = gl (rowsG (r0.inter DRect.screen) (j + 1)) := by
      rw [Nat.zero_add, Nat.mul_one, gl_set _ (by omega), gl_congr (rowsG_next hok ⟨by omega, by omega⟩ (by omega))]
    rw [← e]; exact hw
  · refine s_leaveSF rfl rfl rfl fwA (fun w hw => ⟨?_, hw.below⟩)
    show Ending.returned (gval (rowsG (r0.inter DRect.screen) j)) = _
    rw [gval_congr (rowsG_all (by omega))]
set_option maxHeartbeats 2000000 in
theorem c_paintOne (pw ph : Int) (old : Int → Int → Int) (v : Value) (q : DSurf) (ds : Value) (g : Grid) (H : SPiece) (W : World) (hpw : 1 ≤ pw ∧ pw ≤ 16) (hph : 1 ≤ ph ∧ ph ≤ 16) (hq : q.ok) (hpx : ∀ a c, pixP (old a c)) (hv : OInts 3 v (mapTo old pw (pw * ph).toNat) H) (hd : RInts W ds q.buf.data) (hap : Apart H.keys ds) (hH : Holds W H) (hn : H.keys.Nodup) :
    SYieldsG Tryz.prog 106 #[.agg #[.int .i64 pw, .int .i64 ph, v], vSurf q ds, gval g] H (fun u H' F => u = .int .i64 (hitN q g pw ph ((surfSize q).1 * (surfSize q).2).toNat) ∧ OInts 3 v (mapTo (oneTo q g old ((surfSize q).1 * (surfSize q).2).toNat) pw (pw * ph).toNat) H' ∧ F = []) W := by
  have hpl := pic_len hq
  have hsz := surfSize_bd hq
  have hps := surfSize_pic hq
  have hwh := side_mul (w := pw) (h := ph) ⟨hpw.1, hpw.2, hph.1, hph.2⟩
  have hN := side_mul (w := (surfSize q).1) (h := (surfSize q).2) ⟨hsz.1.1, hsz.1.2, hsz.2.1, hsz.2.2⟩
  have hq' := hq
  unfold DSurf.ok at hq'
  have hm := fun k => mod_row (w := (pictureOf q).W) (q := k) (by rw [hps.1]; exact hsz.1.1)
  have hdv := fun (k : Nat) (hk : k < ((surfSize q).1 * (surfSize q).2).toNat) => div_lt (w := (surfSize q).1) (h := (surfSize q).2) (q := k) hsz.1.1 hk
  have hhb := fun k => hitN_bd q g pw ph k
  have hdv' := fun (k : Nat) (hk : k < ((surfSize q).1 * (surfSize q).2).toNat) => (show (k : Int) / (pictureOf q).W < (surfSize q).2 by rw [hps.1]; exact hdv k hk)
  have hpok := pictureOf_ok hq
  have pic_pix := fun k => hpok.pix k
  have one_pix := fun (k : Nat) x y => oneTo_pix hq g k (hpx x y)
  refine SYieldsG.mk (s_enterM Tryz.func106 rfl Tryz.ntmps106 rfl hH hn ?_)
  repeat' (first | exact rfl | (apply kO; (first | exact ov_pure rfl | (apply kOBin; (first | exact aBin | exact (ov_andBit rfl rfl (by omega)) | exact (ov_add rfl rfl (by have := hm k.1; have := hdv' k.1 (by omega); omega)) | exact (ov_add rfl rfl (by have := hhb k.1; omega)) | exact (ov_mul rfl rfl (by have := mul_bd (a := q.Y + (k.1 : Int) / (pictureOf q).W) (b := pw) (A := 16) (B := 16) (by omega) (by omega); omega)) | exact (ov_add rfl rfl (by have := mul_bd (a := q.Y + (k.1 : Int) / (pictureOf q).W) (b := pw) (A := 16) (B := 16) (by omega) (by omega); omega)))) | (apply kOCall; (first | (apply kCallF; (first | exact (ov_call rfl (fun w hw => c_within _ _ _ w)) | exact (ov_call rfl (fun w hw => c_iover _ _ w (pic_pix _) (mapTo_pixD (one_pix k.1) _ _ _))))) | (apply kCallB; (first | exact aBlt | exact aLenR)))) | (apply kOLoad; (first | exact (ov_ldG g rfl rfl gpA (by omega)) | exact (ov_ldR0 (fun w hw => (rrA hw)) rfl rfl (by rw [mapTo_length]; have := place_lt (w := pw) (h := ph) (x := q.X + (k.1 : Int) % (pictureOf q).W) (y := q.Y + (k.1 : Int) / (pictureOf q).W) (by omega) (by omega); omega) rfl) | exact aLdF | exact aLdR)) | exact ov_fieldAddr rfl | (apply kOIdx; (first | exact (ov_indexAddrA rfl rfl (by omega)) | exact (ov_idxR (fun w hw => (rrA hw)) rfl rfl (by rw [mapTo_length]; have := place_lt (w := pw) (h := ph) (x := q.X + (k.1 : Int) % (pictureOf q).W) (y := q.Y + (k.1 : Int) / (pictureOf q).W) (by omega) (by omega); omega)) | exact aIdx)) | exact aRest | exact (ov_bit rfl rfl (by omega)) | exact aNew | exact (ov_field1 (ft := 31) rfl rfl rfl rfl))) | (refine kN ?_; (first | (refine kCall ?_; (first | (refine kWFn 184 ?_; (refine s_callF (fun u H => OImg u (pictureOf q) H) rfl (fun w hw => c_surfacePicture q _ w hq (riA hw)) rfl (fun u H1 hu => ?_); obtain ⟨d', rfl, hu⟩ := hu; have f1 := hu.form; obtain ⟨_, _, rfl⟩ := f1)) | apply s_step)) | (refine kStore ?_; (first | (refine s_setI _ rfl rfl (by assumption) gpA (by rw [mapTo_length]; have := place_lt (w := pw) (h := ph) (x := q.X + (k.1 : Int) % (pictureOf q).W) (y := q.Y + (k.1 : Int) / (pictureOf q).W) (by omega) (by omega); omega) (fun H' hst => ?_)) | refine s_store1 _ rfl rfl gpA rfl (by rfl) ?_ | refine s_storeS _ rfl rfl gpA rfl rfl (by rfl) ?_ | refine s_storeS _ rfl rfl gpA rfl (ones_img oiA) (by rfl) ?_)) | refine s_boxS rfl rfl (fun b hb => ?_) | refine s_allocS rfl (fun b hb => ?_) | refine s_box1 rfl rfl rfl (fun b hb => ?_) | refine s_alloc1 rfl rfl (fun b hb => ?_) | refine s_buildSlice0 rfl (fun b hb => ?_) | refine s_buildSlice rfl rfl rfl rfl rfl (fun b hb => ?_) | apply s_step)) | (refine kG ?_; (first | refine s_gyes rfl rfl rfl ?_ | refine s_gno rfl rfl rfl rfl rfl ?_ | ((first | refine s_split_d rfl rfl (fun h => ?_) (fun h => ?_) | refine s_split_n rfl rfl (fun h => ?_) (fun h => ?_)) <;> (try (first | contradiction | (exfalso; omega)))) | refine s_split_nb rfl rfl (fun h => ?_) (fun h => ?_) | refine s_split rfl rfl (fun h => ?_) (fun h => ?_))) | (refine kS ?_; (first | refine h_exec rfl ?_ | refine h_take_nil rfl rfl rfl ?_ | refine h_take_pick rfl rfl rfl ?_ | refine h_nil ?_ | refine h_alt ?_ ?_ | apply h_take)) | (refine kBack ?_; (first | refine h_back_last rfl ?_ | refine h_backN rfl subA ?_)) | refine l_then ?_ | (refine kC ?_; (first | (refine kReg 8 ?_; refine c_regionSN (SPlan.take 0 (SPlan.take 1 (SPlan.take 2 (SPlan.take 3 (SPlan.take 4 (SPlan.take 5 (SPlan.take 6 (SPlan.take 7 (SPlan.take 8 (SPlan.take 9 (SPlan.take 10 (SPlan.take 11 (SPlan.take 12 (SPlan.take 13 (SPlan.take 14 (SPlan.take 15 (SPlan.take 16 (SPlan.take 17 (SPlan.take 18 (SPlan.run 19 (SPlan.take 20 (SPlan.run 21 SPlan.done)))))))))))))))))))))) (some 21) rfl rfl (by decide +kernel) ?_) | (refine kReg 8 ?_; refine c_regionSN (SPlan.take 0 (SPlan.take 1 (SPlan.take 2 (SPlan.take 3 (SPlan.take 4 (SPlan.take 5 (SPlan.take 6 (SPlan.take 7 (SPlan.take 8 (SPlan.take 9 (SPlan.take 10 (SPlan.take 11 (SPlan.take 12 (SPlan.take 13 (SPlan.take 14 (SPlan.take 15 (SPlan.take 16 (SPlan.take 17 (SPlan.take 18 (SPlan.run 19 (SPlan.take 20 (SPlan.run 21 SPlan.done)))))))))))))))))))))) none rfl rfl (by decide +kernel) ?_) | (refine c_loopV (ι := Nat × SPiece) (fun k => k.1 ≤ ((surfSize q).1 * (surfSize q).2).toNat ∧ OInts 3 v (mapTo (oneTo q g old k.1) pw (pw * ph).toNat) k.2) (fun k => [(8, .int .i64 (hitN q g pw ph k.1)), (18, .int .i64 (k.1 : Int))]) (fun k => [_, _, _, _, _, k.2]) (fun k => ((surfSize q).1 * (surfSize q).2).toNat - k.1) (0, _) ⟨by dsimp only; omega, by rw [show oneTo q g old 0 = old by funext x y; exact oneTo_zero hq g old x y]; exact hv⟩ rfl (fun _ => rfl) ⟨rfl, rfl, trivial⟩ (fun w hw => hw) (fun k hk => ?_); obtain ⟨hk1, hk2⟩ := hk) | refine c_seq ?_ | refine c_regionN rfl ?_ | refine c_ret ?_ | (refine kCond ?_; (first | refine c_cond_t rfl ?_ | refine c_cond_f rfl ?_ | ((first | refine c_cond_d rfl (fun h => ?_) (fun h => ?_) | refine c_cond_n rfl (fun h => ?_) (fun h => ?_)) <;> (try (first | contradiction | (exfalso; omega)))) | refine c_cond_nb rfl (fun h => ?_) (fun h => ?_) | refine c_cond rfl (fun h => ?_) (fun h => ?_))) | refine c_block ?_ | refine c_skip ?_ | refine c_exit ?_ | refine c_regionQN rfl rfl (by decide +kernel) ?_)) | apply s_stepQ | (refine kQG ?_; (first | refine s_gyesQ rfl rfl rfl ?_ | refine s_gnoQ rfl rfl rfl rfl rfl ?_ | ((first | refine s_splitQ_d rfl rfl (fun h => ?_) (fun h => ?_) | refine s_splitQ_n rfl rfl (fun h => ?_) (fun h => ?_)) <;> (try (first | contradiction | (exfalso; omega)))) | refine s_splitQ_nb rfl rfl (fun h => ?_) (fun h => ?_) | refine s_splitQ rfl rfl (fun h => ?_) (fun h => ?_))) | refine lQ_then ?_ | refine lQ_ends ?_ | (refine kE ?_; (first | refine e_then_r ?_ | refine e_block_r ?_ | refine e_then_n ?_ | refine e_then_x ?_ | refine e_block_n ?_ | refine e_block_x ?_ | refine e_block_y rfl ?_)) | refine l_ends ?_)
  · rename_i h1 h2 h3
    have hkN : k.1 < ((surfSize q).1 * (surfSize q).2).toNat := by omega
    have ekx : q.X + (k.1 : Int) % (pictureOf q).W = kx q k.1 := by unfold kx; rw [hps.1]
    have eky : q.Y + (k.1 : Int) / (pictureOf q).W = ky q k.1 := by unfold ky; rw [hps.1]
    rw [ekx] at h2
    rw [eky] at h3
    rw [ekx, eky] at h hst
    have hmi := one_hit hq (g := g) (old := old) (w := pw) (h := ph) hkN h2 h3 (bit_ne.1 h)
    rw [Int.toNat_natCast, hmi.1] at hst
    exact e_round (k.1 + 1, H') ⟨by dsimp only; omega, hst⟩ ⟨slook_to rfl (vint_to hmi.2), slook_to rfl (vint_to (by push_cast; rfl)), (by repeat' first | exact trivial | refine ⟨rfl, ?_⟩)⟩ (fun w hw => hw) (by dsimp only; omega)
  · rename_i h1 h2 h3
    have hkN : k.1 < ((surfSize q).1 * (surfSize q).2).toNat := by omega
    have ekx : q.X + (k.1 : Int) % (pictureOf q).W = kx q k.1 := by unfold kx; rw [hps.1]
    have eky : q.Y + (k.1 : Int) / (pictureOf q).W = ky q k.1 := by unfold ky; rw [hps.1]
    rw [ekx, eky] at h
    have hmi := one_miss hq (g := g) (old := old) (w := pw) (h := ph) hpw.1 hkN (fun hh => h (bit_ne.2 hh.2))
    rw [← hmi.1] at hk2
    exact e_round (k.1 + 1, k.2) ⟨by dsimp only; omega, hk2⟩ ⟨slook_to rfl (vint_to hmi.2.symm), slook_to rfl (vint_to (by push_cast; rfl)), (by repeat' first | exact trivial | refine ⟨rfl, ?_⟩)⟩ (fun w hw => hw) (by dsimp only; omega)
  · rename_i h1 h2
    have hkN : k.1 < ((surfSize q).1 * (surfSize q).2).toNat := by omega
    have ekx : q.X + (k.1 : Int) % (pictureOf q).W = kx q k.1 := by unfold kx; rw [hps.1]
    have eky : q.Y + (k.1 : Int) / (pictureOf q).W = ky q k.1 := by unfold ky; rw [hps.1]
    rw [eky] at h
    have hmi := one_miss hq (g := g) (old := old) (w := pw) (h := ph) hpw.1 hkN (fun hh => h hh.1.2)
    rw [← hmi.1] at hk2
    exact e_round (k.1 + 1, k.2) ⟨by dsimp only; omega, hk2⟩ ⟨slook_to rfl (vint_to hmi.2.symm), slook_to rfl (vint_to (by push_cast; rfl)), (by repeat' first | exact trivial | refine ⟨rfl, ?_⟩)⟩ (fun w hw => hw) (by dsimp only; omega)
  · rename_i h1
    have hkN : k.1 < ((surfSize q).1 * (surfSize q).2).toNat := by omega
    have ekx : q.X + (k.1 : Int) % (pictureOf q).W = kx q k.1 := by unfold kx; rw [hps.1]
    have eky : q.Y + (k.1 : Int) / (pictureOf q).W = ky q k.1 := by unfold ky; rw [hps.1]
    rw [ekx] at h
    have hmi := one_miss hq (g := g) (old := old) (w := pw) (h := ph) hpw.1 hkN (fun hh => h hh.1.1)
    rw [← hmi.1] at hk2
    exact e_round (k.1 + 1, k.2) ⟨by dsimp only; omega, hk2⟩ ⟨slook_to rfl (vint_to hmi.2.symm), slook_to rfl (vint_to (by push_cast; rfl)), (by repeat' first | exact trivial | refine ⟨rfl, ?_⟩)⟩ (fun w hw => hw) (by dsimp only; omega)
  · have hkN : k.1 = ((surfSize q).1 * (surfSize q).2).toNat := by omega
    rw [hkN] at hk2
    exact s_leave1 rfl (slook_to rfl (vint_to (by rw [hkN]))) (fun w hw => ⟨_, k.2, [], rfl, ⟨rfl, hk2, rfl⟩, (hw.sub (L' := [_]) (selO_sub [false, false, false, false, false, true] _ _ rfl)).lone⟩)
end Go.Proofs.YtfmjeakcfmmkfaaGreat
/-
  Contracts: what the laws draw from their bytes. Only what is sure of the result is said.
-/
set_option linter.unusedVariables false
namespace Go.Proofs.YtfmjeakcfmmkfaaGreat
open Go Sx
attribute [local irreducible] Exit.then Exit.inBlock bodyPost
/-- the cursor: its bytes, its place, its mixed number -/
abbrev curP (bs : Value) (ci h : Int) (cb : Nat) : SPiece := [(cb, srow [bs, .int .i64 ci, .int .i64 h] 162)]
/-- the bytes are read beside the cursor -/
def NAp (cb : Nat) (bs : Value) (l : List Int) : Prop := 0 < l.length → (baseOf bs).1 ≠ cb
structure CDraw (cb : Nat) (bs : Value) (l : List Int) (w : World) : Prop where
  rd : RBytes w bs l
  ap : NAp cb bs l
theorem rbForm {w : World} {v : Value} {l : List Int} (h : RBytes w v l) : ∃ a c, v = .slice a l.length c := by
  obtain ⟨a, c, e, _⟩ := RRow.form h.1; exact ⟨a, c, e⟩
theorem keepC {cb : Nat} {bs : Value} {l : List Int} {lo : SMut} {s w : World} {L : SHeap} (h : CDraw cb bs l s) (hlo : lo = [cb]) (hw : SSt lo s L w) : CDraw cb bs l w := by
  refine ⟨?_, h.ap⟩
  by_cases hl : 0 < l.length
  · exact h.rd.keepM (by rw [hlo]; unfold Apart; simpa using h.ap hl) hw
  · exact ⟨⟨h.rd.1.form, h.rd.1.len, h.rd.1.size, fun i hi => absurd hi (by omega), h.rd.1.room⟩, h.rd.2⟩
theorem freshC {cb : Nat} {bs : Value} {l : List Int} {s w : World} {L : SHeap} {i : Nat} {ci ch : Int} (h : RBytes s bs l) (hw : SSt [] s L w) (hL : getL L i = some (curP bs ci ch cb)) : CDraw cb bs l w := by
  refine ⟨h.keep (hw.cells rfl), fun hl e => ?_⟩
  have h1 := h.1.cell 0 hl 0 _ rfl
  have h2 := World.block_lt_of_cell? s _ h1
  have h3 := (hw.blocks cb _ (getL_flat hL (List.mem_singleton.2 rfl))).1
  simp only [List.not_mem_nil, false_or] at h3
  dsimp only at h2
  omega
/-- a draw: the cursor goes on, the value and the new memory are as Φ says -/
structure SDraw (P : Program) (f : FuncId) (args : Array Value) (cb : Nat) (bs : Value) (l : List Int) (Φ : Value → SPiece → Prop) (w : World) : Prop where
  run : ∀ (ci ch : Int), (0 ≤ ci ∧ ci ≤ l.length) → Holds w (curP bs ci ch cb) → (curP bs ci ch cb).keys.Nodup → SYieldsG P f args (curP bs ci ch cb) (fun u H' F => (∃ ci' ch' : Int, H' = curP bs ci' ch' cb ∧ 0 ≤ ci' ∧ ci' ≤ l.length) ∧ Φ u F) w
section
variable {P : Program} {n : Nat} {lo : SMut} {s : World} {ops : Array Oper} {Q : Exit → Act → World → Prop} {E : SEnv} {L : SHeap} {d : Nat} {ty : TypeId} {pos : String} {after : Array Edge} {rest : List Oper}
theorem s_draw (i : Nat) {f : FuncId} {args : List Operand} {ts : Array TypeId} {vs : List Value} {cb : Nat} {bs : Value} {l : List Int} {ci ch : Int} {Φ : Value → SPiece → Prop} [hf : SCallee P f]
    (ha : svals E args = some vs) (hL : getL L i = some (curP bs ci ch cb)) (hi : 0 ≤ ci ∧ ci ≤ l.length) (hc : ∀ w, SSt lo s L w → SDraw P f vs.toArray cb bs l Φ w) (hd : Nat.blt d n = true)
    (k : ∀ v (ci' ch' : Int) F, (0 ≤ ci' ∧ ci' ≤ l.length) → Φ v F → WPL P n lo s ops Q rest ((d, v) :: E) (F :: setL L i (curP bs ci' ch' cb))) :
    WPL P n lo s ops Q (⟨some d, .call { callee := .value (.func f), args := args.toArray, argTypes := ts }, ty, pos, after, none⟩ :: rest) E L :=
  s_callG i (fun u H' F => (∃ ci' ch' : Int, H' = curP bs ci' ch' cb ∧ 0 ≤ ci' ∧ ci' ≤ l.length) ∧ Φ u F) ha hL (fun w hw hh hn => (hc w hw).run ci ch hi hh hn) hd (fun v H' F hu => by
    obtain ⟨⟨ci', ch', rfl, hci⟩, hu⟩ := hu; exact k v ci' ch' F hci hu)
theorem w_heap {l : List Oper} {L' : SHeap} (h : ∀ w, SSt lo s L w → SSt lo s L' w) (k : WPL P n lo s ops Q l E L') : WPL P n lo s ops Q l E L := by
  unfold WPL at *
  exact fun a w ha hw => k a w ha (h w hw)
theorem s_drawV (i : Nat) {f : FuncId} {args : List Operand} {ts : Array TypeId} {vs : List Value} {cb : Nat} {bs : Value} {l : List Int} {ci ch : Int} {q : Value → Prop} [hf : SCallee P f]
    (ha : svals E args = some vs) (hL : getL L i = some (curP bs ci ch cb)) (hi : 0 ≤ ci ∧ ci ≤ l.length) (hc : ∀ w, SSt lo s L w → SDraw P f vs.toArray cb bs l (fun v F => q v ∧ F = []) w) (hd : Nat.blt d n = true)
    (k : ∀ v (ci' ch' : Int), (0 ≤ ci' ∧ ci' ≤ l.length) → q v → WPL P n lo s ops Q rest ((d, v) :: E) (setL L i (curP bs ci' ch' cb))) :
    WPL P n lo s ops Q (⟨some d, .call { callee := .value (.func f), args := args.toArray, argTypes := ts }, ty, pos, after, none⟩ :: rest) E L :=
  s_draw i ha hL hi hc hd (fun v ci' ch' F hci hu => by
    obtain ⟨hq, rfl⟩ := hu
    exact w_heap (fun w hw => hw.sub (List.Sublist.cons _ (List.Sublist.refl _))) (k v ci' ch' hci hq))
end
def isInt (lo hi : Int) (v : Value) : Prop := ∃ x, v = .int .i64 x ∧ lo ≤ x ∧ x ≤ hi
def isBool (v : Value) : Prop := ∃ x, v = .bool x
def xorI (i j : Int) : Int := IntKind.i64.wrap ((BitVec.ofInt 64 i ^^^ BitVec.ofInt 64 j).toNat : Int)
theorem ov_xorA {P : Program} {n : Nat} {lo : SMut} {s : World} {E : SEnv} {L : SHeap} {d : Option Tmp} {ty : TypeId} {pos : String} {after : Array Edge} {g : Option (Nat × Bool)} {x y : Operand} {xt yt : TypeId} {i j : Int}
    (hx : sval E x = some (.int .i64 i)) (hy : sval E y = some (.int .i64 j)) : SOpV P n lo s E L ⟨d, .binOp .xor xt x y yt, ty, pos, after, g⟩ (.int .i64 (xorI i j)) :=
  SOpV.of_run fun a ha w hw => by
    simp only [execOp, eqGuard, binOp, Op.intBits, ha.sval hx, ha.sval hy]
    rfl
theorem getD_mem {k : List Int} {j : Nat} (h : j < k.length) : k.getD j 0 ∈ k := by
  rw [List.getD_eq_getElem?_getD, List.getElem?_eq_getElem h]; exact List.getElem_mem h
set_option maxRecDepth 1000000 in
theorem c_l01New (v : Value) (l : List Int) (W : World) (hv : RBytes W v l) (hl : l.length ≤ 1048576) : SYieldsF Tryz.prog 56 #[v] (fun u H => ∃ cb ch, u = .pointer (some ⟨cb, 0, none⟩) ∧ H = curP v 0 ch cb) W := by
  have hv' := rbForm hv
  obtain ⟨_, _, rfl⟩ := hv'
  (first | apply SYields.mk | apply SYieldsF.mk | skip); refine s_enter Tryz.func56 rfl Tryz.ntmps56 rfl ?_
  repeat' (first | exact rfl | (apply kO; (first | exact ov_pure rfl | (apply kOBin; (first | exact aBin | exact (ov_mask 30 rfl rfl (by omega) (by omega)) | exact (ov_add rfl rfl (by have := hv.2 j.1 (by omega); rw [Int.toNat_natCast]; omega)))) | (apply kOCall; (first | (apply kCallB; (first | exact aBlt | exact aLenR)))) | (apply kOLoad; (first | exact aLdF | exact aLdR)) | exact ov_fieldAddr rfl | (apply kOIdx; (first | exact aIdx)) | exact aRest | exact (ov_conv rfl (by have := hv.2 j.1 (by omega); rw [Int.toNat_natCast]; omega)) | exact aNew | exact (ov_field1 (ft := 31) rfl rfl rfl rfl))) | (refine kN ?_; (first | (refine kStore ?_; (first | refine s_store1 _ rfl rfl gpA rfl (by rfl) ?_ | refine s_storeS _ rfl rfl gpA rfl rfl (by rfl) ?_ | refine s_storeS _ rfl rfl gpA rfl (ones_img oiA) (by rfl) ?_)) | refine s_boxS rfl rfl (fun b hb => ?_) | refine s_allocS rfl (fun b hb => ?_) | refine s_box1 rfl rfl rfl (fun b hb => ?_) | refine s_alloc1 rfl rfl (fun b hb => ?_) | refine s_buildSlice0 rfl (fun b hb => ?_) | refine s_buildSlice rfl rfl rfl rfl rfl (fun b hb => ?_) | apply s_step)) | (refine kG ?_; (first | refine s_gyes rfl rfl rfl ?_ | refine s_gno rfl rfl rfl rfl rfl ?_ | ((first | refine s_split_d rfl rfl (fun h => ?_) (fun h => ?_) | refine s_split_n rfl rfl (fun h => ?_) (fun h => ?_)) <;> (try (first | contradiction | (exfalso; omega)))) | refine s_split_nb rfl rfl (fun h => ?_) (fun h => ?_) | refine s_split rfl rfl (fun h => ?_) (fun h => ?_))) | refine l_then ?_ | (refine kC ?_; (first | (refine c_loopV (ι := Nat × Int) (fun j => j.1 ≤ l.length ∧ 0 ≤ j.2 ∧ j.2 ≤ 1073741823) (fun j => [(3, .int .i64 j.2), (4, .int .i64 (j.1 : Int))]) (fun _ => []) (fun j => l.length - j.1) (0, 33137 + (l.length : Int)) ⟨by dsimp only; omega, by dsimp only; omega⟩ rfl (fun _ => rfl) ⟨rfl, rfl, trivial⟩ (fun w hw => hw) (fun j hj => ?_)) | refine c_seq ?_ | refine c_regionN rfl ?_ | refine c_ret ?_ | (refine kCond ?_; (first | refine c_cond_t rfl ?_ | refine c_cond_f rfl ?_ | ((first | refine c_cond_d rfl (fun h => ?_) (fun h => ?_) | refine c_cond_n rfl (fun h => ?_) (fun h => ?_)) <;> (try (first | contradiction | (exfalso; omega)))) | refine c_cond_nb rfl (fun h => ?_) (fun h => ?_) | refine c_cond rfl (fun h => ?_) (fun h => ?_))) | refine c_block ?_ | refine c_skip ?_ | refine c_exit ?_ | refine c_regionQN rfl rfl (by decide +kernel) ?_)) | apply s_stepQ | (refine kQG ?_; (first | refine s_gyesQ rfl rfl rfl ?_ | refine s_gnoQ rfl rfl rfl rfl rfl ?_ | ((first | refine s_splitQ_d rfl rfl (fun h => ?_) (fun h => ?_) | refine s_splitQ_n rfl rfl (fun h => ?_) (fun h => ?_)) <;> (try (first | contradiction | (exfalso; omega)))) | refine s_splitQ_nb rfl rfl (fun h => ?_) (fun h => ?_) | refine s_splitQ rfl rfl (fun h => ?_) (fun h => ?_))) | refine lQ_then ?_ | refine lQ_ends ?_ | (refine kE ?_; (first | refine e_then_r ?_ | refine e_block_r ?_ | refine e_then_n ?_ | refine e_then_x ?_ | refine e_block_n ?_ | refine e_block_x ?_ | refine e_block_y rfl ?_)) | refine l_ends ?_)
  · exact e_round (j.1 + 1, _) ⟨by dsimp only; omega, by dsimp only; omega⟩ ⟨rfl, rfl, (by repeat' first | exact trivial | refine ⟨rfl, ?_⟩)⟩ (fun w hw => hw) (by dsimp only; omega)
  all_goals exact s_leave1 rfl rfl (fun w hw => ⟨_, _, rfl, ⟨_, _, rfl, rfl⟩, hw.toFresh (i := 0) rfl⟩)
theorem c_l01Byte (cb : Nat) (bs : Value) (l : List Int) (W : World) (hcd : CDraw cb bs l W) : SDraw Tryz.prog 137 #[.pointer (some ⟨cb, 0, none⟩)] cb bs l (fun v F => isInt 0 255 v ∧ F = []) W := by
  have hll := hcd.rd.1.len
  refine ⟨fun ci ch hci hH hn => SYieldsG.mk (s_enterM Tryz.func137 rfl Tryz.ntmps137 rfl hH hn ?_)⟩
  repeat' (first | exact rfl | (apply kO; (first | exact ov_pure rfl | (apply kOBin; (first | exact aBin | exact (ov_mulw rfl rfl) | exact (ov_addw rfl rfl) | exact (ov_add rfl rfl (by have := hcd.rd.2 ci.toNat (by omega); omega)))) | (apply kOCall; (first | (apply kCallB; (first | exact aBlt | exact (ov_lenR (fun w hw => (keepC hcd rfl hw).rd.1) rfl) | exact aLenR)))) | (apply kOLoad; (first | exact (ov_ldR0 (fun w hw => (keepC hcd rfl hw).rd.1) rfl rfl (by omega) rfl) | exact aLdF | exact aLdR)) | exact ov_fieldAddr rfl | (apply kOIdx; (first | exact (ov_idxR (fun w hw => (keepC hcd rfl hw).rd.1) rfl rfl (by omega)) | exact aIdx)) | exact aRest | exact (ov_xorA rfl rfl) | exact (ov_conv rfl (by have := hcd.rd.2 ci.toNat (by omega); omega)) | exact aNew | exact (ov_field1 (ft := 31) rfl rfl rfl rfl))) | (refine kN ?_; (first | (refine kStore ?_; (first | refine s_store1 _ rfl rfl gpA rfl (by rfl) ?_ | refine s_storeS _ rfl rfl gpA rfl rfl (by rfl) ?_ | refine s_storeS _ rfl rfl gpA rfl (ones_img oiA) (by rfl) ?_)) | refine s_boxS rfl rfl (fun b hb => ?_) | refine s_allocS rfl (fun b hb => ?_) | refine s_box1 rfl rfl rfl (fun b hb => ?_) | refine s_alloc1 rfl rfl (fun b hb => ?_) | refine s_buildSlice0 rfl (fun b hb => ?_) | refine s_buildSlice rfl rfl rfl rfl rfl (fun b hb => ?_) | apply s_step)) | (refine kG ?_; (first | refine s_gyes rfl rfl rfl ?_ | refine s_gno rfl rfl rfl rfl rfl ?_ | ((first | refine s_split_d rfl rfl (fun h => ?_) (fun h => ?_) | refine s_split_n rfl rfl (fun h => ?_) (fun h => ?_)) <;> (try (first | contradiction | (exfalso; omega)))) | refine s_split_nb rfl rfl (fun h => ?_) (fun h => ?_) | refine s_split rfl rfl (fun h => ?_) (fun h => ?_))) | refine l_then ?_ | (refine kC ?_; (first | refine c_seq ?_ | refine c_regionN rfl ?_ | refine c_ret ?_ | (refine kCond ?_; (first | refine c_cond_t rfl ?_ | refine c_cond_f rfl ?_ | ((first | refine c_cond_d rfl (fun h => ?_) (fun h => ?_) | refine c_cond_n rfl (fun h => ?_) (fun h => ?_)) <;> (try (first | contradiction | (exfalso; omega)))) | refine c_cond_nb rfl (fun h => ?_) (fun h => ?_) | refine c_cond rfl (fun h => ?_) (fun h => ?_))) | refine c_block ?_ | refine c_skip ?_ | refine c_exit ?_ | refine c_regionQN rfl rfl (by decide +kernel) ?_)) | apply s_stepQ | (refine kQG ?_; (first | refine s_gyesQ rfl rfl rfl ?_ | refine s_gnoQ rfl rfl rfl rfl rfl ?_ | ((first | refine s_splitQ_d rfl rfl (fun h => ?_) (fun h => ?_) | refine s_splitQ_n rfl rfl (fun h => ?_) (fun h => ?_)) <;> (try (first | contradiction | (exfalso; omega)))) | refine s_splitQ_nb rfl rfl (fun h => ?_) (fun h => ?_) | refine s_splitQ rfl rfl (fun h => ?_) (fun h => ?_))) | refine lQ_then ?_ | refine lQ_ends ?_ | (refine kE ?_; (first | refine e_then_r ?_ | refine e_block_r ?_ | refine e_then_n ?_ | refine e_then_x ?_ | refine e_block_n ?_ | refine e_block_x ?_ | refine e_block_y rfl ?_)) | refine l_ends ?_)
  all_goals exact s_leave1 rfl rfl (fun w hw => ⟨_, _, [], rfl, ⟨⟨_, _, rfl, by omega⟩, ⟨_, rfl, by omega⟩, rfl⟩, hw.lone⟩)
theorem c_l01Below (m : Int) (cb : Nat) (bs : Value) (l : List Int) (W : World) (hcd : CDraw cb bs l W) (hm : 1 ≤ m ∧ m ≤ 256) : SDraw Tryz.prog 58 #[.pointer (some ⟨cb, 0, none⟩), .int .i64 m] cb bs l (fun v F => isInt 0 (m - 1) v ∧ F = []) W := by
  refine ⟨fun ci ch hci hH hn => SYieldsG.mk (s_enterM Tryz.func58 rfl Tryz.ntmps58 rfl hH hn ?_)⟩
  repeat' (first | exact rfl | (apply kO; (first | exact ov_pure rfl | (apply kOBin; (first | exact aBin)) | (apply kOCall; (first | (apply kCallB; (first | exact aBlt | exact aLenR)))) | (apply kOLoad; (first | exact aLdF | exact aLdR)) | exact ov_fieldAddr rfl | (apply kOIdx; (first | exact aIdx)) | exact aRest | exact aNew | exact (ov_field1 (ft := 31) rfl rfl rfl rfl))) | (refine kN ?_; (first | (refine kCall ?_; (first | (refine kWFn 137 ?_; (refine s_drawV _ rfl gpA (by omega) (fun w hw => c_l01Byte cb bs l w (by first | exact keepC hcd rfl hw | exact freshC (by assumption) hw gpA)) rfl (fun v ci ch hci hu => ?_); obtain ⟨x, rfl, hx⟩ := hu)) | apply s_step)) | (refine kStore ?_; (first | refine s_store1 _ rfl rfl gpA rfl (by rfl) ?_ | refine s_storeS _ rfl rfl gpA rfl rfl (by rfl) ?_ | refine s_storeS _ rfl rfl gpA rfl (ones_img oiA) (by rfl) ?_)) | refine s_boxS rfl rfl (fun b hb => ?_) | refine s_allocS rfl (fun b hb => ?_) | refine s_box1 rfl rfl rfl (fun b hb => ?_) | refine s_alloc1 rfl rfl (fun b hb => ?_) | refine s_buildSlice0 rfl (fun b hb => ?_) | refine s_buildSlice rfl rfl rfl rfl rfl (fun b hb => ?_) | apply s_step)) | (refine kG ?_; (first | refine s_gyes rfl rfl rfl ?_ | refine s_gno rfl rfl rfl rfl rfl ?_ | ((first | refine s_split_d rfl rfl (fun h => ?_) (fun h => ?_) | refine s_split_n rfl rfl (fun h => ?_) (fun h => ?_)) <;> (try (first | contradiction | (exfalso; omega)))) | refine s_split_nb rfl rfl (fun h => ?_) (fun h => ?_) | refine s_split rfl rfl (fun h => ?_) (fun h => ?_))) | refine l_then ?_ | (refine kC ?_; (first | refine c_seq ?_ | refine c_regionN rfl ?_ | refine c_ret ?_ | (refine kCond ?_; (first | refine c_cond_t rfl ?_ | refine c_cond_f rfl ?_ | ((first | refine c_cond_d rfl (fun h => ?_) (fun h => ?_) | refine c_cond_n rfl (fun h => ?_) (fun h => ?_)) <;> (try (first | contradiction | (exfalso; omega)))) | refine c_cond_nb rfl (fun h => ?_) (fun h => ?_) | refine c_cond rfl (fun h => ?_) (fun h => ?_))) | refine c_block ?_ | refine c_skip ?_ | refine c_exit ?_ | refine c_regionQN rfl rfl (by decide +kernel) ?_)) | apply s_stepQ | (refine kQG ?_; (first | refine s_gyesQ rfl rfl rfl ?_ | refine s_gnoQ rfl rfl rfl rfl rfl ?_ | ((first | refine s_splitQ_d rfl rfl (fun h => ?_) (fun h => ?_) | refine s_splitQ_n rfl rfl (fun h => ?_) (fun h => ?_)) <;> (try (first | contradiction | (exfalso; omega)))) | refine s_splitQ_nb rfl rfl (fun h => ?_) (fun h => ?_) | refine s_splitQ rfl rfl (fun h => ?_) (fun h => ?_))) | refine lQ_then ?_ | refine lQ_ends ?_ | (refine kE ?_; (first | refine e_then_r ?_ | refine e_block_r ?_ | refine e_then_n ?_ | refine e_then_x ?_ | refine e_block_n ?_ | refine e_block_x ?_ | refine e_block_y rfl ?_)) | refine l_ends ?_)
  all_goals exact s_leave1 rfl rfl (fun w hw => ⟨_, _, [], rfl, ⟨⟨_, _, rfl, by omega⟩, ⟨_, rfl, by have h1 := Int.emod_nonneg x (b := m) (by omega); have h2 := Int.emod_lt_of_pos x (b := m) (by omega); omega⟩, rfl⟩, hw.lone⟩)
theorem c_l01Once (m : Int) (cb : Nat) (bs : Value) (l : List Int) (W : World) (hcd : CDraw cb bs l W) (hm : 1 ≤ m ∧ m ≤ 256) : SDraw Tryz.prog 194 #[.pointer (some ⟨cb, 0, none⟩), .int .i64 m] cb bs l (fun v F => isBool v ∧ F = []) W := by
  refine ⟨fun ci ch hci hH hn => SYieldsG.mk (s_enterM Tryz.func194 rfl Tryz.ntmps194 rfl hH hn ?_)⟩
  repeat' (first | exact rfl | (apply kO; (first | exact ov_pure rfl | (apply kOBin; (first | exact aBin)) | (apply kOCall; (first | (apply kCallB; (first | exact aBlt | exact aLenR)))) | (apply kOLoad; (first | exact aLdF | exact aLdR)) | exact ov_fieldAddr rfl | (apply kOIdx; (first | exact aIdx)) | exact aRest | exact aNew | exact (ov_field1 (ft := 31) rfl rfl rfl rfl))) | (refine kN ?_; (first | (refine kCall ?_; (first | (refine kWFn 58 ?_; (refine s_drawV _ rfl gpA (by omega) (fun w hw => c_l01Below _ cb bs l w (by first | exact keepC hcd rfl hw | exact freshC (by assumption) hw gpA) (by omega)) rfl (fun v ci ch hci hu => ?_); obtain ⟨x, rfl, hx⟩ := hu)) | apply s_step)) | (refine kStore ?_; (first | refine s_store1 _ rfl rfl gpA rfl (by rfl) ?_ | refine s_storeS _ rfl rfl gpA rfl rfl (by rfl) ?_ | refine s_storeS _ rfl rfl gpA rfl (ones_img oiA) (by rfl) ?_)) | refine s_boxS rfl rfl (fun b hb => ?_) | refine s_allocS rfl (fun b hb => ?_) | refine s_box1 rfl rfl rfl (fun b hb => ?_) | refine s_alloc1 rfl rfl (fun b hb => ?_) | refine s_buildSlice0 rfl (fun b hb => ?_) | refine s_buildSlice rfl rfl rfl rfl rfl (fun b hb => ?_) | apply s_step)) | (refine kG ?_; (first | refine s_gyes rfl rfl rfl ?_ | refine s_gno rfl rfl rfl rfl rfl ?_ | ((first | refine s_split_d rfl rfl (fun h => ?_) (fun h => ?_) | refine s_split_n rfl rfl (fun h => ?_) (fun h => ?_)) <;> (try (first | contradiction | (exfalso; omega)))) | refine s_split_nb rfl rfl (fun h => ?_) (fun h => ?_) | refine s_split rfl rfl (fun h => ?_) (fun h => ?_))) | refine l_then ?_ | (refine kC ?_; (first | refine c_seq ?_ | refine c_regionN rfl ?_ | refine c_ret ?_ | (refine kCond ?_; (first | refine c_cond_t rfl ?_ | refine c_cond_f rfl ?_ | ((first | refine c_cond_d rfl (fun h => ?_) (fun h => ?_) | refine c_cond_n rfl (fun h => ?_) (fun h => ?_)) <;> (try (first | contradiction | (exfalso; omega)))) | refine c_cond_nb rfl (fun h => ?_) (fun h => ?_) | refine c_cond rfl (fun h => ?_) (fun h => ?_))) | refine c_block ?_ | refine c_skip ?_ | refine c_exit ?_ | refine c_regionQN rfl rfl (by decide +kernel) ?_)) | apply s_stepQ | (refine kQG ?_; (first | refine s_gyesQ rfl rfl rfl ?_ | refine s_gnoQ rfl rfl rfl rfl rfl ?_ | ((first | refine s_splitQ_d rfl rfl (fun h => ?_) (fun h => ?_) | refine s_splitQ_n rfl rfl (fun h => ?_) (fun h => ?_)) <;> (try (first | contradiction | (exfalso; omega)))) | refine s_splitQ_nb rfl rfl (fun h => ?_) (fun h => ?_) | refine s_splitQ rfl rfl (fun h => ?_) (fun h => ?_))) | refine lQ_then ?_ | refine lQ_ends ?_ | (refine kE ?_; (first | refine e_then_r ?_ | refine e_block_r ?_ | refine e_then_n ?_ | refine e_then_x ?_ | refine e_block_n ?_ | refine e_block_x ?_ | refine e_block_y rfl ?_)) | refine l_ends ?_)
  all_goals exact s_leave1 rfl rfl (fun w hw => ⟨_, _, [], rfl, ⟨⟨_, _, rfl, by omega⟩, ⟨_, rfl⟩, rfl⟩, hw.lone⟩)
theorem c_l01PickInt (u : Value) (k : List Int) (cb : Nat) (bs : Value) (l : List Int) (W : World) (hcd : CDraw cb bs l W) (hu : RInts W u k) (hu2 : (baseOf u).1 ≠ cb) (hk : 1 ≤ k.length ∧ k.length ≤ 256) :
    SDraw Tryz.prog 190 #[.pointer (some ⟨cb, 0, none⟩), u] cb bs l (fun v F => (∃ x, v = .int .i64 x ∧ x ∈ k) ∧ F = []) W := by
  refine ⟨fun ci ch hci hH hn => SYieldsG.mk (s_enterM Tryz.func190 rfl Tryz.ntmps190 rfl hH hn ?_)⟩
  repeat' (first | exact rfl | (apply kO; (first | exact ov_pure rfl | (apply kOBin; (first | exact aBin)) | (apply kOCall; (first | (apply kCallB; (first | exact aBlt | exact (ov_lenR (fun w hw => hu.keepM (show Apart [cb] u by unfold Apart; simpa using hu2) hw) rfl) | exact aLenR)))) | (apply kOLoad; (first | exact (ov_ldR0 (fun w hw => hu.keepM (show Apart [cb] u by unfold Apart; simpa using hu2) hw) rfl rfl (by omega) rfl) | exact aLdF | exact aLdR)) | exact ov_fieldAddr rfl | (apply kOIdx; (first | exact (ov_idxR (fun w hw => hu.keepM (show Apart [cb] u by unfold Apart; simpa using hu2) hw) rfl rfl (by omega)) | exact aIdx)) | exact aRest | exact aNew | exact (ov_field1 (ft := 31) rfl rfl rfl rfl))) | (refine kN ?_; (first | (refine kCall ?_; (first | (refine kWFn 58 ?_; (refine s_drawV _ rfl gpA (by omega) (fun w hw => c_l01Below _ cb bs l w (by first | exact keepC hcd rfl hw | exact freshC (by assumption) hw gpA) (by omega)) rfl (fun v ci ch hci hu => ?_); obtain ⟨x, rfl, hx⟩ := hu)) | apply s_step)) | (refine kStore ?_; (first | refine s_store1 _ rfl rfl gpA rfl (by rfl) ?_ | refine s_storeS _ rfl rfl gpA rfl rfl (by rfl) ?_ | refine s_storeS _ rfl rfl gpA rfl (ones_img oiA) (by rfl) ?_)) | refine s_boxS rfl rfl (fun b hb => ?_) | refine s_allocS rfl (fun b hb => ?_) | refine s_box1 rfl rfl rfl (fun b hb => ?_) | refine s_alloc1 rfl rfl (fun b hb => ?_) | refine s_buildSlice0 rfl (fun b hb => ?_) | refine s_buildSlice rfl rfl rfl rfl rfl (fun b hb => ?_) | apply s_step)) | (refine kG ?_; (first | refine s_gyes rfl rfl rfl ?_ | refine s_gno rfl rfl rfl rfl rfl ?_ | ((first | refine s_split_d rfl rfl (fun h => ?_) (fun h => ?_) | refine s_split_n rfl rfl (fun h => ?_) (fun h => ?_)) <;> (try (first | contradiction | (exfalso; omega)))) | refine s_split_nb rfl rfl (fun h => ?_) (fun h => ?_) | refine s_split rfl rfl (fun h => ?_) (fun h => ?_))) | refine l_then ?_ | (refine kC ?_; (first | refine c_seq ?_ | refine c_regionN rfl ?_ | refine c_ret ?_ | (refine kCond ?_; (first | refine c_cond_t rfl ?_ | refine c_cond_f rfl ?_ | ((first | refine c_cond_d rfl (fun h => ?_) (fun h => ?_) | refine c_cond_n rfl (fun h => ?_) (fun h => ?_)) <;> (try (first | contradiction | (exfalso; omega)))) | refine c_cond_nb rfl (fun h => ?_) (fun h => ?_) | refine c_cond rfl (fun h => ?_) (fun h => ?_))) | refine c_block ?_ | refine c_skip ?_ | refine c_exit ?_ | refine c_regionQN rfl rfl (by decide +kernel) ?_)) | apply s_stepQ | (refine kQG ?_; (first | refine s_gyesQ rfl rfl rfl ?_ | refine s_gnoQ rfl rfl rfl rfl rfl ?_ | ((first | refine s_splitQ_d rfl rfl (fun h => ?_) (fun h => ?_) | refine s_splitQ_n rfl rfl (fun h => ?_) (fun h => ?_)) <;> (try (first | contradiction | (exfalso; omega)))) | refine s_splitQ_nb rfl rfl (fun h => ?_) (fun h => ?_) | refine s_splitQ rfl rfl (fun h => ?_) (fun h => ?_))) | refine lQ_then ?_ | refine lQ_ends ?_ | (refine kE ?_; (first | refine e_then_r ?_ | refine e_block_r ?_ | refine e_then_n ?_ | refine e_then_x ?_ | refine e_block_n ?_ | refine e_block_x ?_ | refine e_block_y rfl ?_)) | refine l_ends ?_)
  all_goals exact s_leave1 rfl rfl (fun w hw => ⟨_, _, [], rfl, ⟨⟨_, _, rfl, by omega⟩, ⟨_, rfl, getD_mem (by omega)⟩, rfl⟩, hw.lone⟩)
end Go.Proofs.YtfmjeakcfmmkfaaGreat
/-
  Contracts: pixels, images, modes that are drawn.
-/
set_option linter.unusedVariables false
namespace Go.Proofs.YtfmjeakcfmmkfaaGreat
open Go Sx
attribute [local irreducible] Exit.then Exit.inBlock bodyPost
theorem swapS {lo : SMut} {s w : World} {A B : SPiece} {L : SHeap} (h : SSt lo s (A :: B :: L) w) : SSt lo s (B :: A :: L) w := h.perm (by
  simp only [List.flatten_cons]
  exact List.perm_append_comm_assoc ..)
theorem pieces_apart : ∀ {L : SHeap} {i j : Nat} {A B : SPiece} {k : Nat} {o p : Obj}, (L.flatten.map (·.1)).Nodup → getL L i = some A → getL L j = some B → Nat.beq i j = false → (k, o) ∈ A → (k, p) ∈ B → False
  | [], i, j, A, B, k, o, p, hn, hi, hj, hij, ha, hb => by simp [getL] at hi
  | X :: L, 0, 0, A, B, k, o, p, hn, hi, hj, hij, ha, hb => by simp at hij
  | X :: L, 0, j + 1, A, B, k, o, p, hn, hi, hj, hij, ha, hb => by
    simp only [getL, Option.some.injEq] at hi
    subst hi
    rw [List.flatten_cons, List.map_append, List.nodup_append] at hn
    exact hn.2.2 k (List.mem_map.2 ⟨(k, o), ha, rfl⟩) k (List.mem_map.2 ⟨(k, p), getL_flat (show getL L j = some B from hj) hb, rfl⟩) rfl
  | X :: L, i + 1, 0, A, B, k, o, p, hn, hi, hj, hij, ha, hb => by
    simp only [getL, Option.some.injEq] at hj
    subst hj
    rw [List.flatten_cons, List.map_append, List.nodup_append] at hn
    exact hn.2.2 k (List.mem_map.2 ⟨(k, p), hb, rfl⟩) k (List.mem_map.2 ⟨(k, o), getL_flat (show getL L i = some A from hi) ha, rfl⟩) rfl
  | X :: L, i + 1, j + 1, A, B, k, o, p, hn, hi, hj, hij, ha, hb => by
    rw [List.flatten_cons, List.map_append, List.nodup_append] at hn
    exact pieces_apart (L := L) hn.2.1 (show getL L i = some A from hi) (show getL L j = some B from hj) (show Nat.beq i j = false from hij) ha hb
theorem blocks_ne {lo : SMut} {s w : World} {L : SHeap} {i j b c : Nat} {o p : Obj} (hw : SSt lo s L w) (hi : getL L i = some [(b, o)]) (hj : getL L j = some [(c, p)]) (hij : Nat.beq i j = false) : b ≠ c := fun e => by
  subst e
  exact pieces_apart hw.nodup hi hj hij (List.mem_singleton.2 rfl) (List.mem_singleton.2 rfl)
theorem c_smakePixel (a r g q : Int) (W : World) (ha : 0 ≤ a ∧ a ≤ 255) (hr : 0 ≤ r ∧ r ≤ 255) (hg : 0 ≤ g ∧ g ≤ 255) (hq : 0 ≤ q ∧ q ≤ 255) : SYields Tryz.prog 192 #[.int .i64 a, .int .i64 r, .int .i64 g, .int .i64 q] (.int .i64 (a * 16777216 + r * 65536 + g * 256 + q)) W := by
  (first | apply SYields.mk | apply SYieldsF.mk | skip); refine s_enter Tryz.func192 rfl Tryz.ntmps192 rfl ?_
  repeat' (first | exact rfl | (apply kO; (first | exact ov_pure rfl | (apply kOBin; (first | exact aBin)) | (apply kOCall; (first | (apply kCallF; (first | exact (ov_call rfl (fun w hw => c_l01In _ _ _ w)))) | (apply kCallB; (first | exact aBlt | exact aLenR)))) | (apply kOLoad; (first | exact aLdF | exact aLdR)) | exact ov_fieldAddr rfl | (apply kOIdx; (first | exact aIdx)) | exact aRest | exact aNew | exact (ov_field1 (ft := 31) rfl rfl rfl rfl))) | (refine kN ?_; (first | (refine kStore ?_; (first | refine s_store1 _ rfl rfl gpA rfl (by rfl) ?_ | refine s_storeS _ rfl rfl gpA rfl rfl (by rfl) ?_ | refine s_storeS _ rfl rfl gpA rfl (ones_img oiA) (by rfl) ?_)) | refine s_boxS rfl rfl (fun b hb => ?_) | refine s_allocS rfl (fun b hb => ?_) | refine s_box1 rfl rfl rfl (fun b hb => ?_) | refine s_alloc1 rfl rfl (fun b hb => ?_) | refine s_buildSlice0 rfl (fun b hb => ?_) | refine s_buildSlice rfl rfl rfl rfl rfl (fun b hb => ?_) | apply s_step)) | (refine kG ?_; (first | refine s_gyes rfl rfl rfl ?_ | refine s_gno rfl rfl rfl rfl rfl ?_ | ((first | refine s_split_d rfl rfl (fun h => ?_) (fun h => ?_) | refine s_split_n rfl rfl (fun h => ?_) (fun h => ?_)) <;> (try (first | contradiction | (exfalso; omega)))) | refine s_split_nb rfl rfl (fun h => ?_) (fun h => ?_) | refine s_split rfl rfl (fun h => ?_) (fun h => ?_))) | refine l_then ?_ | (refine kC ?_; (first | refine c_seq ?_ | refine c_regionN rfl ?_ | refine c_ret ?_ | (refine kCond ?_; (first | refine c_cond_t rfl ?_ | refine c_cond_f rfl ?_ | ((first | refine c_cond_d rfl (fun h => ?_) (fun h => ?_) | refine c_cond_n rfl (fun h => ?_) (fun h => ?_)) <;> (try (first | contradiction | (exfalso; omega)))) | refine c_cond_nb rfl (fun h => ?_) (fun h => ?_) | refine c_cond rfl (fun h => ?_) (fun h => ?_))) | refine c_block ?_ | refine c_skip ?_ | refine c_exit ?_ | refine c_regionQN rfl rfl (by decide +kernel) ?_)) | apply s_stepQ | (refine kQG ?_; (first | refine s_gyesQ rfl rfl rfl ?_ | refine s_gnoQ rfl rfl rfl rfl rfl ?_ | ((first | refine s_splitQ_d rfl rfl (fun h => ?_) (fun h => ?_) | refine s_splitQ_n rfl rfl (fun h => ?_) (fun h => ?_)) <;> (try (first | contradiction | (exfalso; omega)))) | refine s_splitQ_nb rfl rfl (fun h => ?_) (fun h => ?_) | refine s_splitQ rfl rfl (fun h => ?_) (fun h => ?_))) | refine lQ_then ?_ | refine lQ_ends ?_ | (refine kE ?_; (first | refine e_then_r ?_ | refine e_block_r ?_ | refine e_then_n ?_ | refine e_then_x ?_ | refine e_block_n ?_ | refine e_block_x ?_ | refine e_block_y rfl ?_)) | refine l_ends ?_)
  all_goals refine s_leave1 rfl rfl (fun w hw => ⟨?_, hw.below⟩)
  all_goals rfl
theorem c_l04Byte (cb : Nat) (bs : Value) (l : List Int) (W : World) (hcd : CDraw cb bs l W) : SDraw Tryz.prog 191 #[.pointer (some ⟨cb, 0, none⟩)] cb bs l (fun v F => isInt 0 255 v ∧ F = []) W := by
  refine ⟨fun ci ch hci hH hn => SYieldsG.mk (s_enterM Tryz.func191 rfl Tryz.ntmps191 rfl hH hn ?_)⟩
  repeat' (first | exact rfl | (apply kO; (first | exact ov_pure rfl | (apply kOBin; (first | exact aBin)) | (apply kOCall; (first | (apply kCallB; (first | exact aBlt | exact aLenR)))) | (apply kOLoad; (first | exact aLdF | exact aLdR)) | exact ov_fieldAddr rfl | (apply kOIdx; (first | exact aIdx)) | exact aRest | exact aNew | exact (ov_field1 (ft := 31) rfl rfl rfl rfl))) | (refine kN ?_; (first | (refine kCall ?_; (first | (refine kWFn 58 ?_; (refine s_drawV _ rfl gpA (by omega) (fun w hw => c_l01Below _ cb bs l w (by first | exact keepC hcd rfl hw | exact freshC (by assumption) hw gpA) (by omega)) rfl (fun v ci ch hci hu => ?_); obtain ⟨x, rfl, hx⟩ := hu)) | (refine kWFn 190 ?_; (refine s_drawV _ rfl gpA (by omega) (fun w hw => c_l01PickInt _ [0, 255, 127, 128, 1, 254, x] cb bs l w (by first | exact keepC hcd rfl hw | exact freshC (by assumption) hw gpA) (OInts.reads (OInts.whole 3 _ [0, 255, 127, 128, 1, 254, x] (Nat.le_of_ble_eq_true rfl)) (hfA hw)) (blocks_ne hw gpA gpA rfl) ⟨Nat.le_of_ble_eq_true rfl, Nat.le_of_ble_eq_true rfl⟩) rfl (fun v ci ch hci hu => ?_); obtain ⟨x, rfl, hx⟩ := hu)) | apply s_step)) | (refine kStore ?_; (first | refine s_store1 _ rfl rfl gpA rfl (by rfl) ?_ | refine s_storeS _ rfl rfl gpA rfl rfl (by rfl) ?_ | refine s_storeS _ rfl rfl gpA rfl (ones_img oiA) (by rfl) ?_)) | refine s_boxS rfl rfl (fun b hb => ?_) | refine s_allocS rfl (fun b hb => ?_) | refine s_box1 rfl rfl rfl (fun b hb => ?_) | refine s_alloc1 rfl rfl (fun b hb => ?_) | refine s_buildSlice0 rfl (fun b hb => ?_) | refine s_buildSlice rfl rfl rfl rfl rfl (fun b hb => ?_) | apply s_step)) | (refine kG ?_; (first | refine s_gyes rfl rfl rfl ?_ | refine s_gno rfl rfl rfl rfl rfl ?_ | ((first | refine s_split_d rfl rfl (fun h => ?_) (fun h => ?_) | refine s_split_n rfl rfl (fun h => ?_) (fun h => ?_)) <;> (try (first | contradiction | (exfalso; omega)))) | refine s_split_nb rfl rfl (fun h => ?_) (fun h => ?_) | refine s_split rfl rfl (fun h => ?_) (fun h => ?_))) | refine l_then ?_ | (refine kC ?_; (first | refine c_seq ?_ | refine c_regionN rfl ?_ | refine c_ret ?_ | (refine kCond ?_; (first | refine c_cond_t rfl ?_ | refine c_cond_f rfl ?_ | ((first | refine c_cond_d rfl (fun h => ?_) (fun h => ?_) | refine c_cond_n rfl (fun h => ?_) (fun h => ?_)) <;> (try (first | contradiction | (exfalso; omega)))) | refine c_cond_nb rfl (fun h => ?_) (fun h => ?_) | refine c_cond rfl (fun h => ?_) (fun h => ?_))) | refine c_block ?_ | refine c_skip ?_ | refine c_exit ?_ | refine c_regionQN rfl rfl (by decide +kernel) ?_)) | apply s_stepQ | (refine kQG ?_; (first | refine s_gyesQ rfl rfl rfl ?_ | refine s_gnoQ rfl rfl rfl rfl rfl ?_ | ((first | refine s_splitQ_d rfl rfl (fun h => ?_) (fun h => ?_) | refine s_splitQ_n rfl rfl (fun h => ?_) (fun h => ?_)) <;> (try (first | contradiction | (exfalso; omega)))) | refine s_splitQ_nb rfl rfl (fun h => ?_) (fun h => ?_) | refine s_splitQ rfl rfl (fun h => ?_) (fun h => ?_))) | refine lQ_then ?_ | refine lQ_ends ?_ | (refine kE ?_; (first | refine e_then_r ?_ | refine e_block_r ?_ | refine e_then_n ?_ | refine e_then_x ?_ | refine e_block_n ?_ | refine e_block_x ?_ | refine e_block_y rfl ?_)) | refine l_ends ?_)
  all_goals exact s_leave1 rfl rfl (fun w hw => ⟨_, _, [], rfl, ⟨⟨_, _, rfl, by omega⟩, ⟨_, rfl, by simp at hx; omega⟩, rfl⟩, (hw.sub (L' := [_]) (selO_sub [false, true] _ _ rfl)).lone⟩)
theorem c_l04Draw (cb : Nat) (bs : Value) (l : List Int) (W : World) (hcd : CDraw cb bs l W) : SDraw Tryz.prog 134 #[.pointer (some ⟨cb, 0, none⟩)] cb bs l (fun v F => isInt 0 4294967295 v ∧ F = []) W := by
  refine ⟨fun ci ch hci hH hn => SYieldsG.mk (s_enterM Tryz.func134 rfl Tryz.ntmps134 rfl hH hn ?_)⟩
  repeat' (first | exact rfl | (apply kO; (first | exact ov_pure rfl | (apply kOBin; (first | exact aBin)) | (apply kOCall; (first | (apply kCallF; (first | exact (ov_call rfl (fun w hw => c_smakePixel _ _ _ _ w (by omega) (by omega) (by omega) (by omega))))) | (apply kCallB; (first | exact aBlt | exact aLenR)))) | (apply kOLoad; (first | exact aLdF | exact aLdR)) | exact ov_fieldAddr rfl | (apply kOIdx; (first | exact aIdx)) | exact aRest | exact aNew | exact (ov_field1 (ft := 31) rfl rfl rfl rfl))) | (refine kN ?_; (first | (refine kCall ?_; (first | (refine kWFn 58 ?_; (refine s_drawV _ rfl gpA (by omega) (fun w hw => c_l01Below _ cb bs l w (by first | exact keepC hcd rfl hw | exact freshC (by assumption) hw gpA) (by omega)) rfl (fun v ci ch hci hu => ?_); obtain ⟨x, rfl, hx⟩ := hu)) | (refine kWFn 190 ?_; (refine s_drawV _ rfl gpA (by omega) (fun w hw => c_l01PickInt _ [255, 255, 255, 0, 128, 200, x] cb bs l w (by first | exact keepC hcd rfl hw | exact freshC (by assumption) hw gpA) (OInts.reads (OInts.whole 3 _ [255, 255, 255, 0, 128, 200, x] (Nat.le_of_ble_eq_true rfl)) (hfA hw)) (blocks_ne hw gpA gpA rfl) ⟨Nat.le_of_ble_eq_true rfl, Nat.le_of_ble_eq_true rfl⟩) rfl (fun v ci ch hci hu => ?_); obtain ⟨y, rfl, hy⟩ := hu; have hyb : 0 ≤ y ∧ y ≤ 255 := (by simp at hy; omega))) | (refine kWFn 191 ?_; (refine s_drawV _ rfl gpA (by omega) (fun w hw => c_l04Byte cb bs l w (by first | exact keepC hcd rfl hw | exact freshC (by assumption) hw gpA)) rfl (fun v ci ch hci hu => ?_); obtain ⟨x, rfl, hx⟩ := hu)) | apply s_step)) | (refine kStore ?_; (first | refine s_store1 _ rfl rfl gpA rfl (by rfl) ?_ | refine s_storeS _ rfl rfl gpA rfl rfl (by rfl) ?_ | refine s_storeS _ rfl rfl gpA rfl (ones_img oiA) (by rfl) ?_)) | refine s_boxS rfl rfl (fun b hb => ?_) | refine s_allocS rfl (fun b hb => ?_) | refine s_box1 rfl rfl rfl (fun b hb => ?_) | refine s_alloc1 rfl rfl (fun b hb => ?_) | refine s_buildSlice0 rfl (fun b hb => ?_) | refine s_buildSlice rfl rfl rfl rfl rfl (fun b hb => ?_) | apply s_step)) | (refine kG ?_; (first | refine s_gyes rfl rfl rfl ?_ | refine s_gno rfl rfl rfl rfl rfl ?_ | ((first | refine s_split_d rfl rfl (fun h => ?_) (fun h => ?_) | refine s_split_n rfl rfl (fun h => ?_) (fun h => ?_)) <;> (try (first | contradiction | (exfalso; omega)))) | refine s_split_nb rfl rfl (fun h => ?_) (fun h => ?_) | refine s_split rfl rfl (fun h => ?_) (fun h => ?_))) | refine l_then ?_ | (refine kC ?_; (first | refine c_seq ?_ | refine c_regionN rfl ?_ | refine c_ret ?_ | (refine kCond ?_; (first | refine c_cond_t rfl ?_ | refine c_cond_f rfl ?_ | ((first | refine c_cond_d rfl (fun h => ?_) (fun h => ?_) | refine c_cond_n rfl (fun h => ?_) (fun h => ?_)) <;> (try (first | contradiction | (exfalso; omega)))) | refine c_cond_nb rfl (fun h => ?_) (fun h => ?_) | refine c_cond rfl (fun h => ?_) (fun h => ?_))) | refine c_block ?_ | refine c_skip ?_ | refine c_exit ?_ | refine c_regionQN rfl rfl (by decide +kernel) ?_)) | apply s_stepQ | (refine kQG ?_; (first | refine s_gyesQ rfl rfl rfl ?_ | refine s_gnoQ rfl rfl rfl rfl rfl ?_ | ((first | refine s_splitQ_d rfl rfl (fun h => ?_) (fun h => ?_) | refine s_splitQ_n rfl rfl (fun h => ?_) (fun h => ?_)) <;> (try (first | contradiction | (exfalso; omega)))) | refine s_splitQ_nb rfl rfl (fun h => ?_) (fun h => ?_) | refine s_splitQ rfl rfl (fun h => ?_) (fun h => ?_))) | refine lQ_then ?_ | refine lQ_ends ?_ | (refine kE ?_; (first | refine e_then_r ?_ | refine e_block_r ?_ | refine e_then_n ?_ | refine e_then_x ?_ | refine e_block_n ?_ | refine e_block_x ?_ | refine e_block_y rfl ?_)) | refine l_ends ?_)
  all_goals exact s_leave1 rfl rfl (fun w hw => ⟨_, _, [], rfl, ⟨⟨_, _, rfl, by omega⟩, ⟨_, rfl, by omega⟩, rfl⟩, (hw.sub (L' := [_]) (selO_sub [false, true] _ _ rfl)).lone⟩)
theorem c_snewImage (p q r : Int) (W : World) : SYieldsF Tryz.prog 92 #[.int .i64 p, .int .i64 q, .int .i64 r] (fun u H => OImg u (newImage p q r) H) W := by
  by_cases hok : (1 ≤ p ∧ p ≤ 16) ∧ (1 ≤ q ∧ q ≤ 16) ∧ pixP r
  · have hwh := side_mul (w := p) (h := q) ⟨hok.1.1, hok.1.2, hok.2.1.1, hok.2.1.2⟩
    have hp2 := hok.2.2
    unfold pixP at hp2
    (first | apply SYields.mk | apply SYieldsF.mk | skip); refine s_enter Tryz.func92 rfl Tryz.ntmps92 rfl ?_
    repeat' (first | exact rfl | (apply kO; (first | exact ov_pure rfl | (apply kOBin; (first | exact aBin)) | (apply kOCall; (first | (apply kCallF; (first | exact (ov_call rfl (fun w hw => c_l01In _ _ _ w)) | exact (ov_call rfl (fun w hw => c_l04Pixel _ w)))) | (apply kCallB; (first | exact aBlt | exact aLenR)))) | (apply kOLoad; (first | exact aLdF | exact aLdR)) | exact ov_fieldAddr rfl | (apply kOIdx; (first | exact aIdx)) | exact aRest | exact aNew | exact (ov_field1 (ft := 31) rfl rfl rfl rfl))) | (refine kN ?_; (first | (refine kCall ?_; (first | (refine kWApp ?_; (refine s_appendI _ _ (ys := [_]) rfl rfl (by assumption) gpA gpA rfl rfl (by rw [List.length_replicate]; omega) (by decide) rfl (fun v' H' hv' => ?_); have f1 := hv'.form; obtain ⟨ua, uc, rfl⟩ := f1)) | apply s_step)) | (refine kStore ?_; (first | refine s_store1 _ rfl rfl gpA rfl (by rfl) ?_ | refine s_storeS _ rfl rfl gpA rfl rfl (by rfl) ?_ | refine s_storeS _ rfl rfl gpA rfl (ones_img oiA) (by rfl) ?_)) | refine s_boxS rfl rfl (fun b hb => ?_) | refine s_allocS rfl (fun b hb => ?_) | refine s_box1 rfl rfl rfl (fun b hb => ?_) | refine s_alloc1 rfl rfl (fun b hb => ?_) | refine s_buildSlice0 rfl (fun b hb => ?_) | refine s_buildSlice rfl rfl rfl rfl rfl (fun b hb => ?_) | apply s_step)) | (refine kG ?_; (first | refine s_gyes rfl rfl rfl ?_ | refine s_gno rfl rfl rfl rfl rfl ?_ | ((first | refine s_split_d rfl rfl (fun h => ?_) (fun h => ?_) | refine s_split_n rfl rfl (fun h => ?_) (fun h => ?_)) <;> (try (first | contradiction | (exfalso; omega)))) | refine s_split_nb rfl rfl (fun h => ?_) (fun h => ?_) | refine s_split rfl rfl (fun h => ?_) (fun h => ?_))) | refine l_then ?_ | (refine kC ?_; (first | (refine c_loopV (ι := Nat × Value × SPiece) (fun j => (j.1 : Int) ≤ p * q ∧ OInts 3 j.2.1 (List.replicate j.1 r) j.2.2) (fun j => [(8, .int .i64 (j.1 : Int))]) (fun j => [[(_, srow [.int .i64 p, .int .i64 q, j.2.1] 49)], j.2.2, _]) (fun j => (p * q).toNat - j.1) (0, _, []) ⟨by dsimp only; omega, OInts.nil _⟩ rfl (fun _ => rfl) ⟨rfl, trivial⟩ (fun w hw => hw.nil1) (fun j hj => ?_); obtain ⟨hj1, hj2⟩ := hj) | refine c_seq ?_ | refine c_regionN rfl ?_ | refine c_ret ?_ | (refine kCond ?_; (first | refine c_cond_t rfl ?_ | refine c_cond_f rfl ?_ | ((first | refine c_cond_d rfl (fun h => ?_) (fun h => ?_) | refine c_cond_n rfl (fun h => ?_) (fun h => ?_)) <;> (try (first | contradiction | (exfalso; omega)))) | refine c_cond_nb rfl (fun h => ?_) (fun h => ?_) | refine c_cond rfl (fun h => ?_) (fun h => ?_))) | refine c_block ?_ | refine c_skip ?_ | refine c_exit ?_ | refine c_regionQN rfl rfl (by decide +kernel) ?_)) | apply s_stepQ | (refine kQG ?_; (first | refine s_gyesQ rfl rfl rfl ?_ | refine s_gnoQ rfl rfl rfl rfl rfl ?_ | ((first | refine s_splitQ_d rfl rfl (fun h => ?_) (fun h => ?_) | refine s_splitQ_n rfl rfl (fun h => ?_) (fun h => ?_)) <;> (try (first | contradiction | (exfalso; omega)))) | refine s_splitQ_nb rfl rfl (fun h => ?_) (fun h => ?_) | refine s_splitQ rfl rfl (fun h => ?_) (fun h => ?_))) | refine lQ_then ?_ | refine lQ_ends ?_ | (refine kE ?_; (first | refine e_then_r ?_ | refine e_block_r ?_ | refine e_then_n ?_ | refine e_then_x ?_ | refine e_block_n ?_ | refine e_block_x ?_ | refine e_block_y rfl ?_)) | refine l_ends ?_)
    · refine e_round (j.1 + 1, _, H') ⟨by dsimp only; omega, by dsimp only; rw [List.replicate_succ']; exact hv'⟩ ⟨rfl, (by repeat' first | exact trivial | refine ⟨rfl, ?_⟩)⟩ (fun w hw => hw.sub (by repeat' first | exact List.nil_sublist _ | exact List.Sublist.slnil | refine List.Sublist.cons_cons _ ?_ | refine List.Sublist.cons _ ?_)) (by dsimp only; omega)
    · rw [show j.1 = (p * q).toNat by omega] at hj2
      refine s_leaveSF rfl rfl rfl fwA (fun w hw => ⟨_, _, rfl, ?_, hw.toFresh (H := j.2.2) gpA⟩)
      unfold newImage
      rw [if_pos hok]
      exact ⟨_, rfl, hj2⟩
  · have hok2 := hok
    unfold pixP at hok2
    (first | apply SYields.mk | apply SYieldsF.mk | skip); refine s_enter Tryz.func92 rfl Tryz.ntmps92 rfl ?_
    repeat' (first | exact rfl | (apply kO; (first | exact ov_pure rfl | (apply kOBin; (first | exact aBin)) | (apply kOCall; (first | (apply kCallF; (first | exact (ov_call rfl (fun w hw => c_l01In _ _ _ w)) | exact (ov_call rfl (fun w hw => c_l04Pixel _ w)))) | (apply kCallB; (first | exact aBlt | exact aLenR)))) | (apply kOLoad; (first | exact aLdF | exact aLdR)) | exact ov_fieldAddr rfl | (apply kOIdx; (first | exact aIdx)) | exact aRest | exact aNew | exact (ov_field1 (ft := 31) rfl rfl rfl rfl))) | (refine kN ?_; (first | (refine kStore ?_; (first | refine s_store1 _ rfl rfl gpA rfl (by rfl) ?_ | refine s_storeS _ rfl rfl gpA rfl rfl (by rfl) ?_ | refine s_storeS _ rfl rfl gpA rfl (ones_img oiA) (by rfl) ?_)) | refine s_boxS rfl rfl (fun b hb => ?_) | refine s_allocS rfl (fun b hb => ?_) | refine s_box1 rfl rfl rfl (fun b hb => ?_) | refine s_alloc1 rfl rfl (fun b hb => ?_) | refine s_buildSlice0 rfl (fun b hb => ?_) | refine s_buildSlice rfl rfl rfl rfl rfl (fun b hb => ?_) | apply s_step)) | (refine kG ?_; (first | refine s_gyes rfl rfl rfl ?_ | refine s_gno rfl rfl rfl rfl rfl ?_ | ((first | refine s_split_d rfl rfl (fun h => ?_) (fun h => ?_) | refine s_split_n rfl rfl (fun h => ?_) (fun h => ?_)) <;> (try (first | contradiction | (exfalso; omega)))) | refine s_split_nb rfl rfl (fun h => ?_) (fun h => ?_) | refine s_split rfl rfl (fun h => ?_) (fun h => ?_))) | refine l_then ?_ | (refine kC ?_; (first | refine c_seq ?_ | refine c_regionN rfl ?_ | refine c_ret ?_ | (refine kCond ?_; (first | refine c_cond_t rfl ?_ | refine c_cond_f rfl ?_ | ((first | refine c_cond_d rfl (fun h => ?_) (fun h => ?_) | refine c_cond_n rfl (fun h => ?_) (fun h => ?_)) <;> (try (first | contradiction | (exfalso; omega)))) | refine c_cond_nb rfl (fun h => ?_) (fun h => ?_) | refine c_cond rfl (fun h => ?_) (fun h => ?_))) | refine c_block ?_ | refine c_skip ?_ | refine c_exit ?_ | refine c_regionQN rfl rfl (by decide +kernel) ?_)) | apply s_stepQ | (refine kQG ?_; (first | refine s_gyesQ rfl rfl rfl ?_ | refine s_gnoQ rfl rfl rfl rfl rfl ?_ | ((first | refine s_splitQ_d rfl rfl (fun h => ?_) (fun h => ?_) | refine s_splitQ_n rfl rfl (fun h => ?_) (fun h => ?_)) <;> (try (first | contradiction | (exfalso; omega)))) | refine s_splitQ_nb rfl rfl (fun h => ?_) (fun h => ?_) | refine s_splitQ rfl rfl (fun h => ?_) (fun h => ?_))) | refine lQ_then ?_ | refine lQ_ends ?_ | (refine kE ?_; (first | refine e_then_r ?_ | refine e_block_r ?_ | refine e_then_n ?_ | refine e_then_x ?_ | refine e_block_n ?_ | refine e_block_x ?_ | refine e_block_y rfl ?_)) | refine l_ends ?_)
    all_goals (refine kE ?_; refine s_leaveSF rfl rfl rfl fwA (fun w hw => ?_))
    all_goals (unfold newImage; rw [if_neg hok]; exact ⟨_, [], rfl, ⟨_, rfl, OInts.nil _⟩, hw.toFresh0⟩)
theorem newImage_ok {p q r : Int} (hp : 1 ≤ p ∧ p ≤ 16) (hq : 1 ≤ q ∧ q ≤ 16) (hr : pixP r) : (newImage p q r).ok ∧ (newImage p q r).W = p ∧ (newImage p q r).H = q := by
  have hwh := side_mul (w := p) (h := q) ⟨hp.1, hp.2, hq.1, hq.2⟩
  unfold newImage
  rw [if_pos ⟨hp, hq, hr⟩]
  exact ⟨⟨hp, hq, by dsimp only; rw [List.length_replicate]; omega, inR_replicate _ hr⟩, rfl, rfl⟩
theorem inter_box {r : DRect} {p q : Int} (hr : r.ok) (hp : 1 ≤ p ∧ p ≤ 16) (hq : 1 ≤ q ∧ q ≤ 16) :
    0 ≤ (r.inter ⟨0, 0, p, q⟩).X ∧ 0 ≤ (r.inter ⟨0, 0, p, q⟩).W ∧ (r.inter ⟨0, 0, p, q⟩).X + (r.inter ⟨0, 0, p, q⟩).W ≤ p ∧ 0 ≤ (r.inter ⟨0, 0, p, q⟩).Y ∧ 0 ≤ (r.inter ⟨0, 0, p, q⟩).H ∧ (r.inter ⟨0, 0, p, q⟩).Y + (r.inter ⟨0, 0, p, q⟩).H ≤ q := by
  have hb : (⟨0, 0, p, q⟩ : DRect).ok := by unfold DRect.ok; dsimp only; omega
  unfold DRect.inter
  rw [if_pos ⟨hr, hb⟩]
  unfold DRect.ok at hr
  split
  · unfold DRect.zero; dsimp only; omega
  · rename_i hh; dsimp only at hh ⊢; omega
theorem c_sfillRect (i : DImg) (d : Value) (r : DRect) (p : Int) (W : World) (hi : i.ok) (hr : r.ok) (hp : pixP p) (hd : RInts W d i.data) :
    SYieldsF Tryz.prog 193 #[vImg i d, vRect r, .int .i64 p] (fun u H => ∃ j : DImg, j.ok ∧ j.W = i.W ∧ j.H = i.H ∧ OImg u j H) W := by
  have hW := (hi).1; have hH := (hi).2.1; have hlen := (hi).2.2.1; have hlenN := (hi).lenN; have hwh := side_mul (w := i.W) (h := i.H) ⟨(hi).1.1, (hi).1.2, (hi).2.1.1, (hi).2.1.2⟩
  have hbx := inter_box hr hW hH
  have hp2 := hp
  unfold pixP at hp2
  have hpl := fun (y x : Nat) (hy : (y : Int) < (r.inter ⟨0, 0, i.W, i.H⟩).H) (hx : (x : Int) < (r.inter ⟨0, 0, i.W, i.H⟩).W) => place_lt (w := i.W) (h := i.H) (x := (r.inter ⟨0, 0, i.W, i.H⟩).X + x) (y := (r.inter ⟨0, 0, i.W, i.H⟩).Y + y) (by omega) (by omega)
  have hmb := fun (y : Nat) (hy : (y : Int) < (r.inter ⟨0, 0, i.W, i.H⟩).H) => mul_bd (a := (r.inter ⟨0, 0, i.W, i.H⟩).Y + y) (b := i.W) (A := 16) (B := 16) (by omega) (by omega)
  (first | apply SYields.mk | apply SYieldsF.mk | skip); refine s_enter Tryz.func193 rfl Tryz.ntmps193 rfl ?_
  repeat' (first | exact rfl | (apply kO; (first | exact ov_pure rfl | (apply kOBin; (first | exact aBin | exact (ov_mul rfl rfl (by have := hmb y.1 (by omega); omega)) | exact (ov_add rfl rfl (by have := hpl y.1 x.1 (by omega) (by omega); omega)))) | (apply kOCall; (first | (apply kCallF; (first | exact (ov_call rfl (fun w hw => c_simageOk i _ w (riA hw))) | exact (ov_call rfl (fun w hw => c_srectOk r w)) | exact (ov_call rfl (fun w hw => c_l04Pixel _ w)) | exact (ov_call rfl (fun w hw => c_sintersect r ⟨0, 0, i.W, i.H⟩ w)))) | (apply kCallB; (first | exact aBlt | exact aLenR)))) | (apply kOLoad; (first | exact aLdF | exact aLdR)) | exact ov_fieldAddr rfl | (apply kOIdx; (first | exact (ov_idxR (fun w hw => (rrA hw)) rfl rfl (by rw [hx3]; have := hpl y.1 x.1 (by omega) (by omega); omega)) | exact aIdx)) | exact aRest | exact aNew | exact (ov_field1 (ft := 31) rfl rfl rfl rfl))) | (refine kN ?_; (first | (refine kCall ?_; (first | (refine kWFn 109 ?_; (refine s_callF (fun u H => OImg u i H) rfl (fun w hw => c_l05Copy i _ w (riA hw) (by omega)) rfl (fun u H hu => ?_); obtain ⟨d', rfl, hu⟩ := hu; have f1 := hu.form; obtain ⟨_, _, rfl⟩ := f1)) | apply s_step)) | (refine kStore ?_; (first | (refine s_setI _ rfl rfl (by assumption) gpA (by rw [hx3]; have := hpl y.1 x.1 (by omega) (by omega); omega) (fun H' hu => ?_)) | refine s_store1 _ rfl rfl gpA rfl (by rfl) ?_ | refine s_storeS _ rfl rfl gpA rfl rfl (by rfl) ?_ | refine s_storeS _ rfl rfl gpA rfl (ones_img oiA) (by rfl) ?_)) | refine s_boxS rfl rfl (fun b hb => ?_) | refine s_allocS rfl (fun b hb => ?_) | refine s_box1 rfl rfl rfl (fun b hb => ?_) | refine s_alloc1 rfl rfl (fun b hb => ?_) | refine s_buildSlice0 rfl (fun b hb => ?_) | refine s_buildSlice rfl rfl rfl rfl rfl (fun b hb => ?_) | apply s_step)) | (refine kG ?_; (first | refine s_gyes rfl rfl rfl ?_ | refine s_gno rfl rfl rfl rfl rfl ?_ | ((first | refine s_split_d rfl rfl (fun h => ?_) (fun h => ?_) | refine s_split_n rfl rfl (fun h => ?_) (fun h => ?_)) <;> (try (first | contradiction | (exfalso; omega) | (exfalso; exact absurd hi (by assumption)) | (exfalso; exact absurd hr (by assumption))))) | refine s_split_nb rfl rfl (fun h => ?_) (fun h => ?_) | refine s_split rfl rfl (fun h => ?_) (fun h => ?_))) | refine l_then ?_ | (refine kC ?_; (first | (refine c_loopV (ι := Nat × SPiece × List Int) (fun y => (y.1 : Int) ≤ (r.inter ⟨0, 0, i.W, i.H⟩).H ∧ OInts 3 _ y.2.2 y.2.1 ∧ y.2.2.length = i.data.length ∧ inR 0 4294967295 y.2.2) (fun y => [(9, .int .i64 ((r.inter ⟨0, 0, i.W, i.H⟩).Y + y.1))]) (fun y => [_, _, y.2.1, _, _, _]) (fun y => (r.inter ⟨0, 0, i.W, i.H⟩).H.toNat - y.1) (0, _, i.data) ⟨by dsimp only; omega, by assumption, rfl, hi.2.2.2⟩ rfl (fun _ => rfl) ⟨slook_to rfl (vint_to (by simp)), trivial⟩ (fun w hw => hw) (fun y hy => ?_); obtain ⟨hy1, hy2, hy3, hy4⟩ := hy) | (refine c_loopV (ι := Nat × SPiece × List Int) (fun x => (x.1 : Int) ≤ (r.inter ⟨0, 0, i.W, i.H⟩).W ∧ OInts 3 _ x.2.2 x.2.1 ∧ x.2.2.length = i.data.length ∧ inR 0 4294967295 x.2.2) (fun x => [(10, .int .i64 ((r.inter ⟨0, 0, i.W, i.H⟩).X + x.1))]) (fun x => [_, _, x.2.1, _, _, _]) (fun x => (r.inter ⟨0, 0, i.W, i.H⟩).W.toNat - x.1) (0, _, y.2.2) ⟨by dsimp only; omega, hy2, hy3, hy4⟩ rfl (fun _ => rfl) ⟨slook_to rfl (vint_to (by simp)), trivial⟩ (fun w hw => hw) (fun x hx => ?_); obtain ⟨hx1, hx2, hx3, hx4⟩ := hx) | refine c_seq ?_ | refine c_regionN rfl ?_ | refine c_ret ?_ | (refine kCond ?_; (first | refine c_cond_t rfl ?_ | refine c_cond_f rfl ?_ | ((first | refine c_cond_d rfl (fun h => ?_) (fun h => ?_) | refine c_cond_n rfl (fun h => ?_) (fun h => ?_)) <;> (try (first | contradiction | (exfalso; omega) | (exfalso; exact absurd hi (by assumption)) | (exfalso; exact absurd hr (by assumption))))) | refine c_cond_nb rfl (fun h => ?_) (fun h => ?_) | refine c_cond rfl (fun h => ?_) (fun h => ?_))) | refine c_block ?_ | refine c_skip ?_ | refine c_exit ?_ | refine c_regionQN rfl rfl (by decide +kernel) ?_)) | apply s_stepQ | (refine kQG ?_; (first | refine s_gyesQ rfl rfl rfl ?_ | refine s_gnoQ rfl rfl rfl rfl rfl ?_ | ((first | refine s_splitQ_d rfl rfl (fun h => ?_) (fun h => ?_) | refine s_splitQ_n rfl rfl (fun h => ?_) (fun h => ?_)) <;> (try (first | contradiction | (exfalso; omega) | (exfalso; exact absurd hi (by assumption)) | (exfalso; exact absurd hr (by assumption))))) | refine s_splitQ_nb rfl rfl (fun h => ?_) (fun h => ?_) | refine s_splitQ rfl rfl (fun h => ?_) (fun h => ?_))) | refine lQ_then ?_ | refine lQ_ends ?_ | (refine kE ?_; (first | refine e_then_r ?_ | refine e_block_r ?_ | refine e_then_n ?_ | refine e_then_x ?_ | refine e_block_n ?_ | refine e_block_x ?_ | refine e_block_y rfl ?_)) | refine l_ends ?_)
  · exact e_round (x.1 + 1, H', _) ⟨by dsimp only; omega, hu, by dsimp only; rw [List.length_set]; exact hx3, inR_set hx4 hp2 _⟩ ⟨slook_to rfl (vint_to (by push_cast; omega)), (by repeat' first | exact trivial | refine ⟨rfl, ?_⟩)⟩ (fun w hw => hw) (by dsimp only; omega)
  · exact e_round (y.1 + 1, x.2.1, x.2.2) ⟨by dsimp only; omega, hx2, hx3, hx4⟩ ⟨slook_to rfl (vint_to (by push_cast; omega)), (by repeat' first | exact trivial | refine ⟨rfl, ?_⟩)⟩ (fun w hw => hw) (by dsimp only; omega)
  · refine s_leaveSF rfl rfl rfl fwA (fun w hw => ⟨_, _, rfl, ⟨⟨i.W, i.H, y.2.2⟩, ⟨hW, hH, by dsimp only; omega, hy4⟩, rfl, rfl, _, rfl, hy2⟩, hw.toFresh (H := y.2.1) gpA⟩)
theorem _root_.Sx.SYieldsF.imp {P : Program} {f : FuncId} {args : Array Value} {Φ Ψ : Value → SPiece → Prop} {w : World} (h : SYieldsF P f args Φ w) (hi : ∀ v H, Φ v H → Ψ v H) : SYieldsF P f args Ψ w :=
  ⟨h.run.mono fun e w' he => by obtain ⟨v, H, e1, e2, e3⟩ := he; exact ⟨v, H, e1, hi v H e2, e3⟩⟩
/-- some valid image of at most m by m pixels -/
def someImg (m : Int) (u : Value) (H : SPiece) : Prop := ∃ i : DImg, i.ok ∧ i.W ≤ m ∧ i.H ≤ m ∧ OImg u i H
theorem c_newSome (m p q r : Int) (W : World) (hp : 1 ≤ p ∧ p ≤ m) (hq : 1 ≤ q ∧ q ≤ m) (hr : 0 ≤ r ∧ r ≤ 4294967295) (hm : m ≤ 16) : SYieldsF Tryz.prog 92 #[.int .i64 p, .int .i64 q, .int .i64 r] (someImg m) W :=
  (c_snewImage p q r W).imp fun v H h => by
    have hn := newImage_ok (p := p) (q := q) (r := r) (by omega) (by omega) hr
    exact ⟨_, hn.1, by rw [hn.2.1]; omega, by rw [hn.2.2]; omega, h⟩
theorem c_fillSome (m : Int) (i : DImg) (d : Value) (a c e f p : Int) (W : World) (hi : i.ok) (hiw : i.W ≤ m ∧ i.H ≤ m) (ha : 0 ≤ a ∧ a ≤ 255) (hc : 0 ≤ c ∧ c ≤ 255) (he : 0 ≤ e ∧ e ≤ 255) (hf : 0 ≤ f ∧ f ≤ 255) (hp : 0 ≤ p ∧ p ≤ 4294967295) (hd : RInts W d i.data) :
    SYieldsF Tryz.prog 193 #[vImg i d, .agg #[.int .i64 a, .int .i64 c, .int .i64 e, .int .i64 f], .int .i64 p] (someImg m) W :=
  (c_sfillRect i d ⟨a, c, e, f⟩ p W hi (by unfold DRect.ok; dsimp only; omega) hp hd).imp fun v H h => by
    obtain ⟨j, h1, h2, h3, h4⟩ := h
    exact ⟨j, h1, by omega, by omega, h4⟩
theorem c_l05Image (m : Int) (cb : Nat) (bs : Value) (l : List Int) (W : World) (hcd : CDraw cb bs l W) (hm : 1 ≤ m ∧ m ≤ 16) : SDraw Tryz.prog 135 #[.pointer (some ⟨cb, 0, none⟩), .int .i64 m] cb bs l (someImg m) W := by
  refine ⟨fun ci ch hci hH hn => SYieldsG.mk (s_enterM Tryz.func135 rfl Tryz.ntmps135 rfl hH hn ?_)⟩
  repeat' (first | exact rfl | (apply kO; (first | exact ov_pure rfl | (apply kOBin; (first | exact aBin)) | (apply kOCall; (first | (apply kCallB; (first | exact aBlt | exact aLenR)))) | (apply kOLoad; (first | exact aLdF | exact aLdR)) | exact ov_fieldAddr rfl | (apply kOIdx; (first | exact aIdx)) | exact aRest | exact aNew | exact (ov_field1 (ft := 31) rfl rfl rfl rfl))) | (refine kN ?_; (first | (refine kCall ?_; (first | (refine kWFn 58 ?_; (refine s_drawV _ rfl gpA (by omega) (fun w hw => c_l01Below _ cb bs l w (by first | exact keepC hcd rfl hw | exact freshC (by assumption) hw gpA) (by omega)) rfl (fun v ci ch hci hu => ?_); obtain ⟨x, rfl, hx⟩ := hu)) | (refine kWFn 134 ?_; (refine s_drawV _ rfl gpA (by omega) (fun w hw => c_l04Draw cb bs l w (by first | exact keepC hcd rfl hw | exact freshC (by assumption) hw gpA)) rfl (fun v ci ch hci hu => ?_); obtain ⟨x, rfl, hx⟩ := hu)) | (refine kWFn 92 ?_; (refine s_callF (someImg m) rfl (fun w hw => c_newSome m _ _ _ w (by omega) (by omega) (by omega) (by omega)) rfl (fun u H hu => ?_); obtain ⟨i, hi, hiw, hih, d', rfl, hu⟩ := hu; have f1 := hu.form; obtain ⟨_, _, rfl⟩ := f1)) | (refine kWFn 193 ?_; (refine s_callF (someImg m) rfl (fun w hw => c_fillSome m j.2.1 _ _ _ _ _ _ w hj2 ⟨hj3, hj4⟩ (by omega) (by omega) (by omega) (by omega) (by omega) (riA hw)) rfl (fun u H hu => ?_); obtain ⟨i', hi', hiw', hih', d', rfl, hu⟩ := hu; have f1 := hu.form; obtain ⟨_, _, rfl⟩ := f1)) | apply s_step)) | (refine kStore ?_; (first | refine s_store1 _ rfl rfl gpA rfl (by rfl) ?_ | refine s_storeS _ rfl rfl gpA rfl rfl (by rfl) ?_ | refine s_storeS _ rfl rfl gpA rfl (ones_img oiA) (by rfl) ?_)) | refine s_boxS rfl rfl (fun b hb => ?_) | refine s_allocS rfl (fun b hb => ?_) | refine s_box1 rfl rfl rfl (fun b hb => ?_) | refine s_alloc1 rfl rfl (fun b hb => ?_) | refine s_buildSlice0 rfl (fun b hb => ?_) | refine s_buildSlice rfl rfl rfl rfl rfl (fun b hb => ?_) | apply s_step)) | (refine kG ?_; (first | refine s_gyes rfl rfl rfl ?_ | refine s_gno rfl rfl rfl rfl rfl ?_ | ((first | refine s_split_d rfl rfl (fun h => ?_) (fun h => ?_) | refine s_split_n rfl rfl (fun h => ?_) (fun h => ?_)) <;> (try (first | contradiction | (exfalso; omega)))) | refine s_split_nb rfl rfl (fun h => ?_) (fun h => ?_) | refine s_split rfl rfl (fun h => ?_) (fun h => ?_))) | (refine kS ?_; (first | refine h_exec rfl ?_ | refine h_take_nil rfl rfl rfl ?_ | refine h_take_pick rfl rfl rfl ?_ | refine h_nil ?_ | refine h_alt ?_ ?_ | apply h_take)) | (refine kBack ?_; (first | refine h_back_last rfl ?_ | refine h_backN rfl subA ?_)) | refine l_then ?_ | (refine kC ?_; (first | (refine kReg 7 ?_; refine c_regionSubN (SPlan.take 0 (SPlan.take 1 (SPlan.take 2 (SPlan.take 4 (SPlan.take 5 (SPlan.take 7 (SPlan.take 10 (SPlan.take 14 (SPlan.run 3 (SPlan.run 6 (SPlan.run 8 (SPlan.take 9 (SPlan.run 11 (SPlan.take 12 (SPlan.take 13 (SPlan.run 15 (SPlan.run 16 (SPlan.run 17 SPlan.done)))))))))))))))))) (some 17) [true, true, true, false] rfl rfl rfl (by decide +kernel) ?_) | (refine c_loopV (ι := Nat × DImg × Value × SPiece × Int × Int) (fun j => j.1 ≤ 3 ∧ j.2.1.ok ∧ j.2.1.W ≤ m ∧ j.2.1.H ≤ m ∧ OInts 3 j.2.2.1 j.2.1.data j.2.2.2.1 ∧ 0 ≤ j.2.2.2.2.1 ∧ j.2.2.2.2.1 ≤ l.length) (fun j => [(8, .int .i64 (j.1 : Int))]) (fun j => [[(_, srow [.int .i64 j.2.1.W, .int .i64 j.2.1.H, j.2.2.1] 49)], j.2.2.2.1, _, curP bs j.2.2.2.2.1 j.2.2.2.2.2 cb]) (fun j => j.1) (x.toNat, i, _, _, _, _) ⟨by dsimp only; omega, hi, hiw, hih, hu, hci⟩ rfl (fun _ => rfl) ⟨slook_to rfl (vint_to (by dsimp only; omega)), trivial⟩ (fun w hw => hw) (fun j hj => ?_); obtain ⟨hj1, hj2, hj3, hj4, hj5, hj6⟩ := hj) | refine c_seq ?_ | refine c_regionN rfl ?_ | refine c_ret ?_ | (refine kCond ?_; (first | refine c_cond_t rfl ?_ | refine c_cond_f rfl ?_ | ((first | refine c_cond_d rfl (fun h => ?_) (fun h => ?_) | refine c_cond_n rfl (fun h => ?_) (fun h => ?_)) <;> (try (first | contradiction | (exfalso; omega)))) | refine c_cond_nb rfl (fun h => ?_) (fun h => ?_) | refine c_cond rfl (fun h => ?_) (fun h => ?_))) | refine c_block ?_ | refine c_skip ?_ | refine c_exit ?_ | refine c_regionQN rfl rfl (by decide +kernel) ?_)) | apply s_stepQ | (refine kQG ?_; (first | refine s_gyesQ rfl rfl rfl ?_ | refine s_gnoQ rfl rfl rfl rfl rfl ?_ | ((first | refine s_splitQ_d rfl rfl (fun h => ?_) (fun h => ?_) | refine s_splitQ_n rfl rfl (fun h => ?_) (fun h => ?_)) <;> (try (first | contradiction | (exfalso; omega)))) | refine s_splitQ_nb rfl rfl (fun h => ?_) (fun h => ?_) | refine s_splitQ rfl rfl (fun h => ?_) (fun h => ?_))) | refine lQ_then ?_ | refine lQ_ends ?_ | (refine kE ?_; (first | refine e_then_r ?_ | refine e_block_r ?_ | refine e_then_n ?_ | refine e_then_x ?_ | refine e_block_n ?_ | refine e_block_x ?_ | refine e_block_y rfl ?_)) | refine l_ends ?_)
  · exact e_round (j.1 - 1, i', _, H, ci, ch) ⟨by dsimp only; omega, hi', hiw', hih', hu, hci⟩ ⟨slook_to rfl (vint_to (by dsimp only; omega)), (by repeat' first | exact trivial | refine ⟨rfl, ?_⟩)⟩ (fun w hw => swapS (hw.sub (selO_sub [true, true, false, true, true] _ _ rfl))) (by dsimp only; omega)
  · refine s_leaveSF rfl rfl rfl fwA (fun w hw => ⟨_, curP bs j.2.2.2.2.1 j.2.2.2.2.2 cb, j.2.2.2.1, rfl, ⟨⟨j.2.2.2.2.1, j.2.2.2.2.2, rfl, hj6⟩, ⟨j.2.1, hj2, hj3, hj4, _, rfl, hj5⟩⟩, ?_⟩)
    exact (hw.sub (selO_sub [false, true, false, true] _ _ rfl)).perm (by simp only [List.flatten_cons, List.flatten_nil, List.append_nil]; exact List.perm_append_comm)
end Go.Proofs.YtfmjeakcfmmkfaaGreat
/-
  Contracts: a whole scene painted, by the program and by the reference.
-/
set_option linter.unusedVariables false
namespace Go.Proofs.YtfmjeakcfmmkfaaGreat
open Go Sx
attribute [local irreducible] Exit.then Exit.inBlock bodyPost oriented scaled pictureOf rawPicture
theorem c_imageRect (p q : Int) (v : Value) (w : World) : SYields Tryz.prog 103 #[.agg #[.int .i64 p, .int .i64 q, v]] (vRect ⟨0, 0, p, q⟩) w := by
  (first | apply SYields.mk | apply SYieldsF.mk | skip); refine s_enter Tryz.func103 rfl Tryz.ntmps103 rfl ?_
  repeat' (first | exact rfl | (apply kO; (first | exact ov_pure rfl | (apply kOBin; (first | exact aBin)) | (apply kOCall; (first | (apply kCallB; (first | exact aBlt | exact aLenR)))) | (apply kOLoad; (first | exact aLdF | exact aLdR)) | exact ov_fieldAddr rfl | (apply kOIdx; (first | exact aIdx)) | exact aRest | exact aNew | exact (ov_field1 (ft := 31) rfl rfl rfl rfl))) | (refine kN ?_; (first | (refine kStore ?_; (first | refine s_store1 _ rfl rfl gpA rfl (by rfl) ?_ | refine s_storeS _ rfl rfl gpA rfl rfl (by rfl) ?_ | refine s_storeS _ rfl rfl gpA rfl (ones_img oiA) (by rfl) ?_)) | refine s_boxS rfl rfl (fun b hb => ?_) | refine s_allocS rfl (fun b hb => ?_) | refine s_box1 rfl rfl rfl (fun b hb => ?_) | refine s_alloc1 rfl rfl (fun b hb => ?_) | (refine s_boxS rfl rfl (fun b hb => ?_)) | refine s_buildSlice0 rfl (fun b hb => ?_) | refine s_buildSlice rfl rfl rfl rfl rfl (fun b hb => ?_) | apply s_step)) | (refine kG ?_; (first | refine s_gyes rfl rfl rfl ?_ | refine s_gno rfl rfl rfl rfl rfl ?_ | ((first | refine s_split_d rfl rfl (fun h => ?_) (fun h => ?_) | refine s_split_n rfl rfl (fun h => ?_) (fun h => ?_)) <;> (try (first | contradiction | (exfalso; omega)))) | refine s_split_nb rfl rfl (fun h => ?_) (fun h => ?_) | refine s_split rfl rfl (fun h => ?_) (fun h => ?_))) | refine l_then ?_ | (refine kC ?_; (first | refine c_seq ?_ | refine c_regionN rfl ?_ | refine c_ret ?_ | (refine kCond ?_; (first | refine c_cond_t rfl ?_ | refine c_cond_f rfl ?_ | ((first | refine c_cond_d rfl (fun h => ?_) (fun h => ?_) | refine c_cond_n rfl (fun h => ?_) (fun h => ?_)) <;> (try (first | contradiction | (exfalso; omega)))) | refine c_cond_nb rfl (fun h => ?_) (fun h => ?_) | refine c_cond rfl (fun h => ?_) (fun h => ?_))) | refine c_block ?_ | refine c_skip ?_ | refine c_exit ?_ | refine c_regionQN rfl rfl (by decide +kernel) ?_)) | apply s_stepQ | (refine kQG ?_; (first | refine s_gyesQ rfl rfl rfl ?_ | refine s_gnoQ rfl rfl rfl rfl rfl ?_ | ((first | refine s_splitQ_d rfl rfl (fun h => ?_) (fun h => ?_) | refine s_splitQ_n rfl rfl (fun h => ?_) (fun h => ?_)) <;> (try (first | contradiction | (exfalso; omega)))) | refine s_splitQ_nb rfl rfl (fun h => ?_) (fun h => ?_) | refine s_splitQ rfl rfl (fun h => ?_) (fun h => ?_))) | refine lQ_then ?_ | refine lQ_ends ?_ | (refine kE ?_; (first | refine e_then_r ?_ | refine e_block_r ?_ | refine e_then_n ?_ | refine e_then_x ?_ | refine e_block_n ?_ | refine e_block_x ?_ | refine e_block_y rfl ?_)) | refine l_ends ?_)
  all_goals exact s_leaveSF rfl rfl rfl fwA (fun w hw => ⟨rfl, hw.below⟩)
set_option maxHeartbeats 2000000 in
theorem c_painted (s : DScene) (v : Value) (W : World) (hok : s.ok) (hv : RS eSurf W v s.ss) : SYieldsF Tryz.prog 89 #[vScene s v] (fun u H => OImg u (painted s) H) W := by
  have hve := hv
  obtain ⟨ds, hv⟩ := hv
  have hl := hv.row.len
  have hW := hok.1
  have hH := hok.2.1
  have hn := hok.2.2.2.1
  have hpos := fun (k : Nat) (hk : k < s.ss.length) => ((getD_ok hok hk).2.2.2.2.2.2.len).1
  (first | apply SYields.mk | apply SYieldsF.mk | skip); refine s_enter Tryz.func89 rfl Tryz.ntmps89 rfl ?_
  repeat' (first | exact rfl | (apply kO; (first | exact ov_pure rfl | (apply kOBin; (first | exact aBin)) | (apply kOCall; (first | (apply kCallF; (first | exact (ov_call rfl (fun w hw => c_imageRect _ _ _ w)) | exact (ov_call rfl (fun w hw => c_gridOf _ w)))) | (apply kCallB; (first | exact aBlt | exact aLenR)))) | (apply kOLoad; (first | exact aLdF | exact aLdR)) | exact ov_fieldAddr rfl | (apply kOIdx; (first | exact aIdx)) | exact aRest | exact aNew | exact (ov_field1 (ft := 31) rfl rfl rfl rfl))) | (refine kN ?_; (first | (refine kCall ?_; (first | (refine kWFn 63 ?_; (refine s_callF (fun u H => OImg u ⟨s.W, s.H, mapTo (paintTo s 0) s.W (s.W * s.H).toNat⟩ H) rfl (fun w hw => (by rw [newPaint s]; exact c_inewImage s.W s.H s.Back w hW hH hok.back)) rfl (fun u H hu => ?_); obtain ⟨d', rfl, hu⟩ := hu; have f1 := hu.form; obtain ⟨_, _, rfl⟩ := f1)) | (refine kWFn 106 ?_; (refine s_callG _ (H := j.2) (fun u H' F => u = .int .i64 (hitN (s.ss.getD j.1 default) (rectG ⟨0, 0, s.W, s.H⟩) s.W s.H ((surfSize (s.ss.getD j.1 default)).1 * (surfSize (s.ss.getD j.1 default)).2).toNat) ∧ OInts 3 _ (mapTo (oneTo (s.ss.getD j.1 default) (rectG ⟨0, 0, s.W, s.H⟩) (paintTo s j.1) ((surfSize (s.ss.getD j.1 default)).1 * (surfSize (s.ss.getD j.1 default)).2).toNat) s.W (s.W * s.H).toNat) H' ∧ F = []) rfl gpA (fun w hw hh hn => c_paintOne s.W s.H (paintTo s j.1) _ (s.ss.getD j.1 default) _ (rectG ⟨0, 0, s.W, s.H⟩) j.2 w hW hH (getD_ok hok (by omega)) (paintTo_pix hok j.1) hj2 (RInts.keep (hv.rd _ (by omega)) (hw.cells rfl)) (apart_new hw gpA (hv.rd _ (by omega)) (hpos _ (by omega))) hh hn) rfl (fun u H' F hst => ?_); obtain ⟨rfl, hst, rfl⟩ := hst)) | apply s_step)) | (refine kStore ?_; (first | (refine s_storeS _ rfl rfl gpA rfl (eSurf_ones (RInts.one (hv.rd _ (by omega)))) (by rfl) ?_) | refine s_store1 _ rfl rfl gpA rfl (by rfl) ?_ | refine s_storeS _ rfl rfl gpA rfl rfl (by rfl) ?_ | refine s_storeS _ rfl rfl gpA rfl (ones_img oiA) (by rfl) ?_)) | refine s_boxS rfl rfl (fun b hb => ?_) | refine s_allocS rfl (fun b hb => ?_) | refine s_box1 rfl rfl rfl (fun b hb => ?_) | refine s_alloc1 rfl rfl (fun b hb => ?_) | refine s_buildSlice0 rfl (fun b hb => ?_) | refine s_buildSlice rfl rfl rfl rfl rfl (fun b hb => ?_) | apply s_step)) | (refine kG ?_; (first | refine s_gyes rfl rfl rfl ?_ | refine s_gno rfl rfl rfl rfl rfl ?_ | ((first | refine s_split_d rfl rfl (fun h => ?_) (fun h => ?_) | refine s_split_n rfl rfl (fun h => ?_) (fun h => ?_)) <;> (try (first | contradiction | (exfalso; omega)))) | refine s_split_nb rfl rfl (fun h => ?_) (fun h => ?_) | refine s_split rfl rfl (fun h => ?_) (fun h => ?_))) | refine l_then ?_ | (refine kC ?_; (first | (refine c_loopV (ι := Nat × SPiece) (fun j => j.1 ≤ s.ss.length ∧ OInts 3 _ (mapTo (paintTo s j.1) s.W (s.W * s.H).toNat) j.2) (fun j => [(20, .int .i64 (j.1 : Int))]) (fun j => [_, _, j.2, _, _]) (fun j => s.ss.length - j.1) (0, _) ⟨by dsimp only; omega, hu⟩ rfl (fun _ => rfl) ⟨rfl, trivial⟩ (fun w hw => hw) (fun j hj => ?_); obtain ⟨hj1, hj2⟩ := hj) | refine c_seq ?_ | refine c_regionN rfl ?_ | refine c_ret ?_ | (refine kCond ?_; (first | refine c_cond_t rfl ?_ | refine c_cond_f rfl ?_ | ((first | refine c_cond_d rfl (fun h => ?_) (fun h => ?_) | refine c_cond_n rfl (fun h => ?_) (fun h => ?_)) <;> (try (first | contradiction | (exfalso; omega)))) | refine c_cond_nb rfl (fun h => ?_) (fun h => ?_) | refine c_cond rfl (fun h => ?_) (fun h => ?_))) | refine c_block ?_ | refine c_skip ?_ | refine c_exit ?_ | refine c_regionQN rfl rfl (by decide +kernel) ?_)) | apply s_stepQ | (refine kQG ?_; (first | refine s_gyesQ rfl rfl rfl ?_ | refine s_gnoQ rfl rfl rfl rfl rfl ?_ | ((first | refine s_splitQ_d rfl rfl (fun h => ?_) (fun h => ?_) | refine s_splitQ_n rfl rfl (fun h => ?_) (fun h => ?_)) <;> (try (first | contradiction | (exfalso; omega)))) | refine s_splitQ_nb rfl rfl (fun h => ?_) (fun h => ?_) | refine s_splitQ rfl rfl (fun h => ?_) (fun h => ?_))) | refine lQ_then ?_ | refine lQ_ends ?_ | (refine kE ?_; (first | refine e_then_r ?_ | refine e_block_r ?_ | refine e_then_n ?_ | refine e_then_x ?_ | refine e_block_n ?_ | refine e_block_x ?_ | refine e_block_y rfl ?_)) | refine l_ends ?_)
  · rename_i h1
    rw [painted_step hok (k := j.1) (by omega) h] at hst
    exact e_round (j.1 + 1, H') ⟨by dsimp only; omega, hst⟩ ⟨slook_to rfl (vint_to (by push_cast; rfl)), (by repeat' first | exact trivial | refine ⟨rfl, ?_⟩)⟩ (fun w hw => hw.sub (selO_sub [false, false, true, true, true, true, true] _ _ rfl)) (by dsimp only; omega)
  · rename_i h1
    have h' : (s.ss.getD j.1 default).Visible = false := h
    have e := painted_skip (s := s) (k := j.1) (by omega) (by rw [h']; exact Bool.false_ne_true)
    rw [← e] at hj2
    exact e_round (j.1 + 1, j.2) ⟨by dsimp only; omega, hj2⟩ ⟨slook_to rfl (vint_to (by push_cast; rfl)), (by repeat' first | exact trivial | refine ⟨rfl, ?_⟩)⟩ (fun w hw => hw.sub (selO_sub [false, true, true, true, true, true] _ _ rfl)) (by dsimp only; omega)
  · have e : paintTo s j.1 = paintF s := by funext x y; rw [show j.1 = s.ss.length by omega]; exact paintTo_all s x y
    rw [e] at hj2
    exact s_leaveSF rfl rfl rfl fwA (fun w hw => ⟨_, _, rfl, ⟨_, rfl, hj2⟩, hw.toFresh (H := j.2) gpA⟩)
end Go.Proofs.YtfmjeakcfmmkfaaGreat
/-
  Structs of numbers held against one another. Nothing of any one program.
-/
set_option linter.unusedVariables false
namespace Sx
open Go
/-- these fields are numbers, one after the other from this place on -/
def intFields (P : Program) : Nat → List Field → Bool
  | _, [] => true
  | o, f :: fs => (f.name != "_") && (f.offset == o) && (match P.underlying f.type with | some (.int _) => true | _ => false) && intFields P (o + 1) fs
def eqIntsB (P : Program) (t : TypeId) (k : Nat) : Bool :=
  (match P.underlying t with | some (.struct fs) => fs.size == k && intFields P 0 fs.toList | _ => false) && !P.stoodInHeld t && !P.eqGuardType P.depth t
class SEqI (P : Program) (t : TypeId) (k : Nat) : Prop where
  h : eqIntsB P t k = true
theorem part_int {P : Program} {t : TypeId} {kk : IntKind} (h : P.underlying t = some (.int kk)) {l : List Value} {o : Nat} {v : Value} (hv : l[o]? = some v) (w : World) : (part t l.toArray o).run P w = .ok v w := by
  simp [part, isAgg, run_underlying h, hv]
theorem eqFields_ints {P : Program} (d : Nat) (w : World) : ∀ (fs : List Field) (o : Nat) (p q a c : List Int), p.length = o → q.length = o → fs.length = a.length → a.length = c.length → intFields P o fs = true →
    (Op.eqFields (d + 1) (ivals (p ++ a)).toArray (ivals (q ++ c)).toArray fs).run P w = .ok (decide (a = c)) w
  | [], o, p, q, a, c, _, _, hl, hl2, _ => by
    have h1 : a = [] := List.eq_nil_of_length_eq_zero hl.symm
    subst h1
    have h2 : c = [] := List.eq_nil_of_length_eq_zero hl2.symm
    subst h2
    simp [Op.eqFields]
  | f :: fs, o, p, q, [], c, _, _, hl, _, _ => by simp at hl
  | f :: fs, o, p, q, x :: a, [], _, _, _, hl2, _ => by simp at hl2
  | f :: fs, o, p, q, x :: a, y :: c, hp, hq, hl, hl2, hf => by
    simp only [intFields, Bool.and_eq_true, bne_iff_ne, beq_iff_eq] at hf
    obtain ⟨⟨⟨h1, h2⟩, h3⟩, h4⟩ := hf
    obtain ⟨kk, hk⟩ : ∃ kk, P.underlying f.type = some (.int kk) := by
      cases hu : P.underlying f.type with
      | none => simp [hu] at h3
      | some td => cases td <;> simp [hu] at h3; exact ⟨_, rfl⟩
    have g1 : (ivals (p ++ x :: a))[f.offset]? = some (.int .i64 x) := by rw [h2, ← hp]; simp [ivals]
    have g2 : (ivals (q ++ y :: c))[f.offset]? = some (.int .i64 y) := by rw [h2, ← hq]; simp [ivals]
    have ih := eqFields_ints d w fs (o + 1) (p ++ [x]) (q ++ [y]) a c (by simp [hp]) (by simp [hq]) (by simpa using hl) (by simpa using hl2) h4
    rw [List.append_assoc, List.append_assoc] at ih
    simp only [List.singleton_append] at ih
    unfold Op.eqFields
    rw [if_pos h1]
    simp only [Sem.run_bind, part_int hk g1, part_int hk g2, Result.andThen_ok, run_equalIn_int w d f.type .i64 kk x y hk]
    by_cases e : x = y
    · subst e
      simp only [beq_self_eq_true, Bool.not_true, Bool.false_eq_true, if_false, ih, List.cons.injEq, true_and]
    · simp [e]
section
variable {P : Program} {n : Nat} {lo : SMut} {s : World} {E : SEnv} {L : SHeap} {d : Option Tmp} {ty : TypeId} {pos : String} {after : Array Edge} {g : Option (Nat × Bool)} {x y : Operand} {xt yt : TypeId}
theorem equal_ints {P : Program} {t : TypeId} {k : Nat} [hk : SEqI P t k] (d : Nat) {a c : List Int} (ha : a.length = k) (hc : c.length = k) (w : World) : (Op.equalIn (d + 2) t (.agg (ivals a).toArray) (.agg (ivals c).toArray)).run P w = .ok (decide (a = c)) w := by
  have h := hk.h
  unfold eqIntsB at h
  simp only [Bool.and_eq_true, Bool.not_eq_true'] at h
  obtain ⟨⟨h1, h2⟩, h3⟩ := h
  have h4 : P.underlying t = some (.struct (P.fieldsOf t)) ∧ (P.fieldsOf t).size = k ∧ intFields P 0 (P.fieldsOf t).toList = true := by
    unfold Program.fieldsOf
    cases hu : P.underlying t with
    | none => simp [hu] at h1
    | some td => cases td <;> simp [hu] at h1 ⊢; exact h1
  rw [run_equalIn_struct w (d + 1) t _ _ h4.1 h2]
  exact eqFields_ints d w _ 0 [] [] a c rfl rfl (by rw [Array.length_toList, h4.2.1, ha]) (by rw [ha, hc]) h4.2.2
theorem ov_eqlI {k : Nat} [hk : SEqI P xt k] {a c : List Int} (hx : sval E x = some (.agg (ivals a).toArray)) (hy : sval E y = some (.agg (ivals c).toArray)) (ha : a.length = k) (hc : c.length = k) : SOpV P n lo s E L ⟨d, .binOp .eql xt x y yt, ty, pos, after, g⟩ (.bool (decide (a = c))) :=
  SOpV.of_run fun q hq w hw => by
    have h := hk.h
    unfold eqIntsB at h
    simp only [Bool.and_eq_true, Bool.not_eq_true'] at h
    simp only [execOp, hq.sval hx, hq.sval hy, Sem.run_bind, run_eqGuard_agg w .eql xt x y _ _ h.2, Result.andThen_ok, run_eql_struct, equal_ints 9998 ha hc w]
    rfl
theorem ov_neqI {k : Nat} [hk : SEqI P xt k] {a c : List Int} (hx : sval E x = some (.agg (ivals a).toArray)) (hy : sval E y = some (.agg (ivals c).toArray)) (ha : a.length = k) (hc : c.length = k) : SOpV P n lo s E L ⟨d, .binOp .neq xt x y yt, ty, pos, after, g⟩ (.bool (!decide (a = c))) :=
  SOpV.of_run fun q hq w hw => by
    have h := hk.h
    unfold eqIntsB at h
    simp only [Bool.and_eq_true, Bool.not_eq_true'] at h
    simp only [execOp, hq.sval hx, hq.sval hy, Sem.run_bind, run_eqGuard_agg w .neq xt x y _ _ h.2, Result.andThen_ok, run_neq_struct, equal_ints 9998 ha hc w]
    rfl
end
end Sx
namespace Go.Proofs.YtfmjeakcfmmkfaaGreat
open Go Sx
instance : SEqI Tryz.prog 123 4 := ⟨by kernel_rfl⟩
def rectL (r : DRect) : List Int := [r.X, r.Y, r.W, r.H]
theorem rectL_inj {r q : DRect} : rectL r = rectL q ↔ r = q := by
  constructor
  · intro h; cases r; cases q; simp [rectL] at h; simp [h]
  · intro h; rw [h]
theorem rectL_dec (r q : DRect) : decide (rectL r = rectL q) = decide (r = q) := decide_eq_decide.2 rectL_inj
section
variable {n : Nat} {lo : SMut} {s : World} {E : SEnv} {L : SHeap} {d : Option Tmp} {ty : TypeId} {pos : String} {after : Array Edge} {g : Option (Nat × Bool)} {x y : Operand} {yt : TypeId}
theorem ov_eqRect {r q : DRect} (hx : sval E x = some (vRect r)) (hy : sval E y = some (vRect q)) : SOpV Tryz.prog n lo s E L ⟨d, .binOp .eql 123 x y yt, ty, pos, after, g⟩ (.bool (decide (r = q))) := by
  rw [← rectL_dec]; exact ov_eqlI (k := 4) (a := rectL r) (c := rectL q) hx hy rfl rfl
theorem ov_neRect {r q : DRect} (hx : sval E x = some (vRect r)) (hy : sval E y = some (vRect q)) : SOpV Tryz.prog n lo s E L ⟨d, .binOp .neq 123 x y yt, ty, pos, after, g⟩ (.bool (!decide (r = q))) := by
  rw [← rectL_dec]; exact ov_neqI (k := 4) (a := rectL r) (c := rectL q) hx hy rfl rfl
end
end Go.Proofs.YtfmjeakcfmmkfaaGreat
/-
  Contracts: the program's grids joined; regions as grids; the canonical form.
-/
set_option linter.unusedVariables false
namespace Go.Proofs.YtfmjeakcfmmkfaaGreat
open Go Sx
attribute [local irreducible] Exit.then Exit.inBlock bodyPost
/-- the first j rows are joined -/
def mixG (op : Bool → Bool → Bool) (g h : Grid) (j : Nat) : Grid := fun y x => if y < j then op (g y x) (h y x) else g y x
theorem mixG_zero (op : Bool → Bool → Bool) (g h : Grid) : (mixG op g h 0).eqv g := fun y x _ _ => by unfold mixG; rw [if_neg (by omega)]
theorem mixG_next (op : Bool → Bool → Bool) (g h : Grid) {j : Nat} : (Grid.row (mixG op g h j) j (fun i => op (mixG op g h j j i) (h j i))).eqv (mixG op g h (j + 1)) := fun y x _ _ => by
  unfold Grid.row mixG
  by_cases e : y = j
  · subst e; rw [if_pos rfl, if_neg (by omega), if_pos (by omega)]
  · rw [if_neg e]
    by_cases e2 : y < j
    · rw [if_pos e2, if_pos (by omega)]
    · rw [if_neg e2, if_neg (by omega)]
theorem mixG_all (op : Bool → Bool → Bool) (g h : Grid) {j : Nat} (hj : 16 ≤ j) : (mixG op g h j).eqv (fun y x => op (g y x) (h y x)) := fun y x hy _ => by unfold mixG; rw [if_pos (by omega)]
section
variable {P : Program} {n : Nat} {lo : SMut} {s : World} {E : SEnv} {L : SHeap} {d : Option Tmp} {ty : TypeId} {pos : String} {after : Array Edge} {g0 : Option (Nat × Bool)} {x y : Operand} {xt yt : TypeId}
theorem ov_andNotG {f h : Nat → Bool} (hx : sval E x = some (.int .i64 (Sx.bits f 16 : Nat))) (hy : sval E y = some (.int .i64 (Sx.bits h 16 : Nat))) :
    SOpV P n lo s E L ⟨d, .binOp .andNot xt x y yt, ty, pos, after, g0⟩ (.int .i64 (Sx.bits (fun i => f i && !h i) 16 : Nat)) :=
  SOpV.of_run fun a ha w hw => by
    have b1 := bits16 f
    have b2 := bits16 h
    have b3 := bits_lt (fun i => f i && !h i) 16
    have e : (BitVec.ofInt 64 ((Sx.bits f 16 : Nat) : Int) &&& ~~~BitVec.ofInt 64 ((Sx.bits h 16 : Nat) : Int)).toNat = Sx.bits (fun i => f i && !h i) 16 := by
      apply Nat.eq_of_testBit_eq; intro i
      rw [BitVec.testBit_toNat, BitVec.getLsbD_and, BitVec.getLsbD_not, ← BitVec.testBit_toNat, ← BitVec.testBit_toNat, ofInt_toNat_nonneg (by omega), ofInt_toNat_nonneg (by omega), Int.toNat_natCast, Int.toNat_natCast, bits_testBit, bits_testBit, bits_testBit]
      by_cases hi : i < 16
      · simp [hi, show i < 64 by omega]
      · simp [hi]
    have h3 := wrap_nat (m := Sx.bits (fun i => f i && !h i) 16) (by omega)
    have : (execOp a.eval ⟨d, .binOp .andNot xt x y yt, ty, pos, after, g0⟩).run P w = .ok (.value (.int .i64 (IntKind.i64.wrap ((BitVec.ofInt 64 ((Sx.bits f 16 : Nat) : Int) &&& ~~~BitVec.ofInt 64 ((Sx.bits h 16 : Nat) : Int)).toNat : Int)))) w := by
      simp only [execOp, eqGuard, binOp, Op.intBits, ha.sval hx, ha.sval hy]
      rfl
    rw [this, e, h3]
end
theorem c_gor (g f : Grid) (w : World) : SYields Tryz.prog 70 #[gval g, gval f] (gval (g.or f)) w := by
  (first | apply SYields.mk | apply SYieldsF.mk | skip); refine s_enter Tryz.func70 rfl Tryz.ntmps70 rfl ?_
  repeat' (first | exact rfl | (apply kO; (first | exact ov_pure rfl | (apply kOBin; (first | exact aBin | exact (ov_orG rfl rfl))) | (apply kOCall; (first | (apply kCallB; (first | exact aBlt | exact aLenR)))) | (apply kOLoad; (first | exact (ov_ldG (mixG (fun p q => p || q) g f j) rfl rfl gpA (by omega)) | exact (ov_ldG f rfl rfl gpA (by omega)) | exact aLdF | exact aLdR)) | exact ov_fieldAddr rfl | (apply kOIdx; (first | exact (ov_indexAddrA rfl rfl (by omega)) | exact aIdx)) | exact aRest | exact aNew | exact (ov_field1 (ft := 31) rfl rfl rfl rfl))) | (refine kN ?_; (first | (refine kStore ?_; (first | (refine s_setR _ rfl rfl gpA rfl (by simp [gl]; omega) ?_) | refine s_store1 _ rfl rfl gpA rfl (by rfl) ?_ | refine s_storeS _ rfl rfl gpA rfl rfl (by rfl) ?_ | refine s_storeS _ rfl rfl gpA rfl (ones_img oiA) (by rfl) ?_)) | refine s_boxS rfl rfl (fun b hb => ?_) | refine s_allocS rfl (fun b hb => ?_) | refine s_box1 rfl rfl rfl (fun b hb => ?_) | refine s_alloc1 rfl rfl (fun b hb => ?_) | refine s_buildSlice0 rfl (fun b hb => ?_) | refine s_buildSlice rfl rfl rfl rfl rfl (fun b hb => ?_) | apply s_step)) | (refine kG ?_; (first | refine s_gyes rfl rfl rfl ?_ | refine s_gno rfl rfl rfl rfl rfl ?_ | ((first | refine s_split_d rfl rfl (fun h => ?_) (fun h => ?_) | refine s_split_n rfl rfl (fun h => ?_) (fun h => ?_)) <;> (try (first | contradiction | (exfalso; omega)))) | refine s_split_nb rfl rfl (fun h => ?_) (fun h => ?_) | refine s_split rfl rfl (fun h => ?_) (fun h => ?_))) | (refine kS ?_; (first | refine h_exec rfl ?_ | refine h_take_nil rfl rfl rfl ?_ | refine h_take_pick rfl rfl rfl ?_ | refine h_nil ?_ | refine h_alt ?_ ?_ | apply h_take)) | (refine kBack ?_; (first | refine h_back_last rfl ?_ | refine h_backN rfl subA ?_)) | refine l_then ?_ | (refine kC ?_; (first | (refine kReg 4 ?_; refine c_regionSN (SPlan.take 0 (SPlan.take 1 (SPlan.take 2 (SPlan.take 3 (SPlan.take 4 (SPlan.take 5 (SPlan.take 6 (SPlan.take 7 (SPlan.run 8 SPlan.done))))))))) (some 8) rfl rfl (by decide +kernel) ?_) | (refine kReg 4 ?_; refine c_regionSN (SPlan.take 0 (SPlan.take 1 (SPlan.take 2 (SPlan.take 3 (SPlan.take 4 (SPlan.take 5 (SPlan.take 6 (SPlan.take 7 (SPlan.run 8 SPlan.done))))))))) none rfl rfl (by decide +kernel) ?_) | (refine c_loopV (ι := Nat) (fun j => j ≤ 16) (fun j => [(6, .int .i64 (j : Int))]) (fun j => [_, _, [(_, srow (gl (mixG (fun p q => p || q) g f j)) _)]]) (fun j => 16 - j) 0 (by omega) rfl (fun _ => rfl) ⟨rfl, trivial⟩ (fun w hw => by rw [gl_congr (mixG_zero _ g f)]; exact hw) (fun j hj => ?_)) | refine c_seq ?_ | refine c_regionN rfl ?_ | refine c_ret ?_ | (refine kCond ?_; (first | refine c_cond_t rfl ?_ | refine c_cond_f rfl ?_ | ((first | refine c_cond_d rfl (fun h => ?_) (fun h => ?_) | refine c_cond_n rfl (fun h => ?_) (fun h => ?_)) <;> (try (first | contradiction | (exfalso; omega)))) | refine c_cond_nb rfl (fun h => ?_) (fun h => ?_) | refine c_cond rfl (fun h => ?_) (fun h => ?_))) | refine c_block ?_ | refine c_skip ?_ | refine c_exit ?_ | refine c_regionQN rfl rfl (by decide +kernel) ?_)) | apply s_stepQ | (refine kQG ?_; (first | refine s_gyesQ rfl rfl rfl ?_ | refine s_gnoQ rfl rfl rfl rfl rfl ?_ | ((first | refine s_splitQ_d rfl rfl (fun h => ?_) (fun h => ?_) | refine s_splitQ_n rfl rfl (fun h => ?_) (fun h => ?_)) <;> (try (first | contradiction | (exfalso; omega)))) | refine s_splitQ_nb rfl rfl (fun h => ?_) (fun h => ?_) | refine s_splitQ rfl rfl (fun h => ?_) (fun h => ?_))) | refine lQ_then ?_ | refine lQ_ends ?_ | (refine kE ?_; (first | refine e_then_r ?_ | refine e_block_r ?_ | refine e_then_n ?_ | refine e_then_x ?_ | refine e_block_n ?_ | refine e_block_x ?_ | refine e_block_y rfl ?_)) | refine l_ends ?_)
  · refine e_round (j + 1) (by omega) ⟨slook_to rfl (vint_to (by push_cast; rfl)), (by repeat' first | exact trivial | refine ⟨rfl, ?_⟩)⟩ (fun w hw => ?_) (by omega)
    have e : (gl (mixG (fun p q => p || q) g f j)).set (0 + (j : Int).toNat * 1) (.int .i64 (Sx.bits (fun i => (fun p q => p || q) (mixG (fun p q => p || q) g f j j i) (f j i)) 16 : Nat)) = gl (mixG (fun p q => p || q) g f (j + 1)) := by
      rw [Nat.zero_add, Nat.mul_one, Int.toNat_natCast, gl_set _ (by omega), gl_congr (mixG_next (fun p q => p || q) g f)]
    rw [← e]; exact hw
  · refine s_leaveSF rfl rfl rfl fwA (fun w hw => ⟨?_, hw.below⟩)
    show Ending.returned (gval (mixG (fun p q => p || q) g f j)) = _
    rw [gval_congr (mixG_all (fun p q => p || q) g f (by omega))]; rfl
theorem c_gand (g f : Grid) (w : World) : SYields Tryz.prog 151 #[gval g, gval f] (gval (g.and f)) w := by
  (first | apply SYields.mk | apply SYieldsF.mk | skip); refine s_enter Tryz.func151 rfl Tryz.ntmps151 rfl ?_
  repeat' (first | exact rfl | (apply kO; (first | exact ov_pure rfl | (apply kOBin; (first | exact aBin | exact (ov_andG rfl rfl))) | (apply kOCall; (first | (apply kCallB; (first | exact aBlt | exact aLenR)))) | (apply kOLoad; (first | exact (ov_ldG (mixG (fun p q => p && q) g f j) rfl rfl gpA (by omega)) | exact (ov_ldG f rfl rfl gpA (by omega)) | exact aLdF | exact aLdR)) | exact ov_fieldAddr rfl | (apply kOIdx; (first | exact (ov_indexAddrA rfl rfl (by omega)) | exact aIdx)) | exact aRest | exact aNew | exact (ov_field1 (ft := 31) rfl rfl rfl rfl))) | (refine kN ?_; (first | (refine kStore ?_; (first | (refine s_setR _ rfl rfl gpA rfl (by simp [gl]; omega) ?_) | refine s_store1 _ rfl rfl gpA rfl (by rfl) ?_ | refine s_storeS _ rfl rfl gpA rfl rfl (by rfl) ?_ | refine s_storeS _ rfl rfl gpA rfl (ones_img oiA) (by rfl) ?_)) | refine s_boxS rfl rfl (fun b hb => ?_) | refine s_allocS rfl (fun b hb => ?_) | refine s_box1 rfl rfl rfl (fun b hb => ?_) | refine s_alloc1 rfl rfl (fun b hb => ?_) | refine s_buildSlice0 rfl (fun b hb => ?_) | refine s_buildSlice rfl rfl rfl rfl rfl (fun b hb => ?_) | apply s_step)) | (refine kG ?_; (first | refine s_gyes rfl rfl rfl ?_ | refine s_gno rfl rfl rfl rfl rfl ?_ | ((first | refine s_split_d rfl rfl (fun h => ?_) (fun h => ?_) | refine s_split_n rfl rfl (fun h => ?_) (fun h => ?_)) <;> (try (first | contradiction | (exfalso; omega)))) | refine s_split_nb rfl rfl (fun h => ?_) (fun h => ?_) | refine s_split rfl rfl (fun h => ?_) (fun h => ?_))) | (refine kS ?_; (first | refine h_exec rfl ?_ | refine h_take_nil rfl rfl rfl ?_ | refine h_take_pick rfl rfl rfl ?_ | refine h_nil ?_ | refine h_alt ?_ ?_ | apply h_take)) | (refine kBack ?_; (first | refine h_back_last rfl ?_ | refine h_backN rfl subA ?_)) | refine l_then ?_ | (refine kC ?_; (first | (refine kReg 4 ?_; refine c_regionSN (SPlan.take 0 (SPlan.take 1 (SPlan.take 2 (SPlan.take 3 (SPlan.take 4 (SPlan.take 5 (SPlan.take 6 (SPlan.take 7 (SPlan.run 8 SPlan.done))))))))) (some 8) rfl rfl (by decide +kernel) ?_) | (refine kReg 4 ?_; refine c_regionSN (SPlan.take 0 (SPlan.take 1 (SPlan.take 2 (SPlan.take 3 (SPlan.take 4 (SPlan.take 5 (SPlan.take 6 (SPlan.take 7 (SPlan.run 8 SPlan.done))))))))) none rfl rfl (by decide +kernel) ?_) | (refine c_loopV (ι := Nat) (fun j => j ≤ 16) (fun j => [(6, .int .i64 (j : Int))]) (fun j => [_, _, [(_, srow (gl (mixG (fun p q => p && q) g f j)) _)]]) (fun j => 16 - j) 0 (by omega) rfl (fun _ => rfl) ⟨rfl, trivial⟩ (fun w hw => by rw [gl_congr (mixG_zero _ g f)]; exact hw) (fun j hj => ?_)) | refine c_seq ?_ | refine c_regionN rfl ?_ | refine c_ret ?_ | (refine kCond ?_; (first | refine c_cond_t rfl ?_ | refine c_cond_f rfl ?_ | ((first | refine c_cond_d rfl (fun h => ?_) (fun h => ?_) | refine c_cond_n rfl (fun h => ?_) (fun h => ?_)) <;> (try (first | contradiction | (exfalso; omega)))) | refine c_cond_nb rfl (fun h => ?_) (fun h => ?_) | refine c_cond rfl (fun h => ?_) (fun h => ?_))) | refine c_block ?_ | refine c_skip ?_ | refine c_exit ?_ | refine c_regionQN rfl rfl (by decide +kernel) ?_)) | apply s_stepQ | (refine kQG ?_; (first | refine s_gyesQ rfl rfl rfl ?_ | refine s_gnoQ rfl rfl rfl rfl rfl ?_ | ((first | refine s_splitQ_d rfl rfl (fun h => ?_) (fun h => ?_) | refine s_splitQ_n rfl rfl (fun h => ?_) (fun h => ?_)) <;> (try (first | contradiction | (exfalso; omega)))) | refine s_splitQ_nb rfl rfl (fun h => ?_) (fun h => ?_) | refine s_splitQ rfl rfl (fun h => ?_) (fun h => ?_))) | refine lQ_then ?_ | refine lQ_ends ?_ | (refine kE ?_; (first | refine e_then_r ?_ | refine e_block_r ?_ | refine e_then_n ?_ | refine e_then_x ?_ | refine e_block_n ?_ | refine e_block_x ?_ | refine e_block_y rfl ?_)) | refine l_ends ?_)
  · refine e_round (j + 1) (by omega) ⟨slook_to rfl (vint_to (by push_cast; rfl)), (by repeat' first | exact trivial | refine ⟨rfl, ?_⟩)⟩ (fun w hw => ?_) (by omega)
    have e : (gl (mixG (fun p q => p && q) g f j)).set (0 + (j : Int).toNat * 1) (.int .i64 (Sx.bits (fun i => (fun p q => p && q) (mixG (fun p q => p && q) g f j j i) (f j i)) 16 : Nat)) = gl (mixG (fun p q => p && q) g f (j + 1)) := by
      rw [Nat.zero_add, Nat.mul_one, Int.toNat_natCast, gl_set _ (by omega), gl_congr (mixG_next (fun p q => p && q) g f)]
    rw [← e]; exact hw
  · refine s_leaveSF rfl rfl rfl fwA (fun w hw => ⟨?_, hw.below⟩)
    show Ending.returned (gval (mixG (fun p q => p && q) g f j)) = _
    rw [gval_congr (mixG_all (fun p q => p && q) g f (by omega))]; rfl
theorem c_gwithout (g f : Grid) (w : World) : SYields Tryz.prog 104 #[gval g, gval f] (gval (g.without f)) w := by
  (first | apply SYields.mk | apply SYieldsF.mk | skip); refine s_enter Tryz.func104 rfl Tryz.ntmps104 rfl ?_
  repeat' (first | exact rfl | (apply kO; (first | exact ov_pure rfl | (apply kOBin; (first | exact aBin | exact (ov_andNotG rfl rfl))) | (apply kOCall; (first | (apply kCallB; (first | exact aBlt | exact aLenR)))) | (apply kOLoad; (first | exact (ov_ldG (mixG (fun p q => p && !q) g f j) rfl rfl gpA (by omega)) | exact (ov_ldG f rfl rfl gpA (by omega)) | exact aLdF | exact aLdR)) | exact ov_fieldAddr rfl | (apply kOIdx; (first | exact (ov_indexAddrA rfl rfl (by omega)) | exact aIdx)) | exact aRest | exact aNew | exact (ov_field1 (ft := 31) rfl rfl rfl rfl))) | (refine kN ?_; (first | (refine kStore ?_; (first | (refine s_setR _ rfl rfl gpA rfl (by simp [gl]; omega) ?_) | refine s_store1 _ rfl rfl gpA rfl (by rfl) ?_ | refine s_storeS _ rfl rfl gpA rfl rfl (by rfl) ?_ | refine s_storeS _ rfl rfl gpA rfl (ones_img oiA) (by rfl) ?_)) | refine s_boxS rfl rfl (fun b hb => ?_) | refine s_allocS rfl (fun b hb => ?_) | refine s_box1 rfl rfl rfl (fun b hb => ?_) | refine s_alloc1 rfl rfl (fun b hb => ?_) | refine s_buildSlice0 rfl (fun b hb => ?_) | refine s_buildSlice rfl rfl rfl rfl rfl (fun b hb => ?_) | apply s_step)) | (refine kG ?_; (first | refine s_gyes rfl rfl rfl ?_ | refine s_gno rfl rfl rfl rfl rfl ?_ | ((first | refine s_split_d rfl rfl (fun h => ?_) (fun h => ?_) | refine s_split_n rfl rfl (fun h => ?_) (fun h => ?_)) <;> (try (first | contradiction | (exfalso; omega)))) | refine s_split_nb rfl rfl (fun h => ?_) (fun h => ?_) | refine s_split rfl rfl (fun h => ?_) (fun h => ?_))) | (refine kS ?_; (first | refine h_exec rfl ?_ | refine h_take_nil rfl rfl rfl ?_ | refine h_take_pick rfl rfl rfl ?_ | refine h_nil ?_ | refine h_alt ?_ ?_ | apply h_take)) | (refine kBack ?_; (first | refine h_back_last rfl ?_ | refine h_backN rfl subA ?_)) | refine l_then ?_ | (refine kC ?_; (first | (refine kReg 4 ?_; refine c_regionSN (SPlan.take 0 (SPlan.take 1 (SPlan.take 2 (SPlan.take 3 (SPlan.take 4 (SPlan.take 5 (SPlan.take 6 (SPlan.take 7 (SPlan.run 8 SPlan.done))))))))) (some 8) rfl rfl (by decide +kernel) ?_) | (refine kReg 4 ?_; refine c_regionSN (SPlan.take 0 (SPlan.take 1 (SPlan.take 2 (SPlan.take 3 (SPlan.take 4 (SPlan.take 5 (SPlan.take 6 (SPlan.take 7 (SPlan.run 8 SPlan.done))))))))) none rfl rfl (by decide +kernel) ?_) | (refine c_loopV (ι := Nat) (fun j => j ≤ 16) (fun j => [(6, .int .i64 (j : Int))]) (fun j => [_, _, [(_, srow (gl (mixG (fun p q => p && !q) g f j)) _)]]) (fun j => 16 - j) 0 (by omega) rfl (fun _ => rfl) ⟨rfl, trivial⟩ (fun w hw => by rw [gl_congr (mixG_zero _ g f)]; exact hw) (fun j hj => ?_)) | refine c_seq ?_ | refine c_regionN rfl ?_ | refine c_ret ?_ | (refine kCond ?_; (first | refine c_cond_t rfl ?_ | refine c_cond_f rfl ?_ | ((first | refine c_cond_d rfl (fun h => ?_) (fun h => ?_) | refine c_cond_n rfl (fun h => ?_) (fun h => ?_)) <;> (try (first | contradiction | (exfalso; omega)))) | refine c_cond_nb rfl (fun h => ?_) (fun h => ?_) | refine c_cond rfl (fun h => ?_) (fun h => ?_))) | refine c_block ?_ | refine c_skip ?_ | refine c_exit ?_ | refine c_regionQN rfl rfl (by decide +kernel) ?_)) | apply s_stepQ | (refine kQG ?_; (first | refine s_gyesQ rfl rfl rfl ?_ | refine s_gnoQ rfl rfl rfl rfl rfl ?_ | ((first | refine s_splitQ_d rfl rfl (fun h => ?_) (fun h => ?_) | refine s_splitQ_n rfl rfl (fun h => ?_) (fun h => ?_)) <;> (try (first | contradiction | (exfalso; omega)))) | refine s_splitQ_nb rfl rfl (fun h => ?_) (fun h => ?_) | refine s_splitQ rfl rfl (fun h => ?_) (fun h => ?_))) | refine lQ_then ?_ | refine lQ_ends ?_ | (refine kE ?_; (first | refine e_then_r ?_ | refine e_block_r ?_ | refine e_then_n ?_ | refine e_then_x ?_ | refine e_block_n ?_ | refine e_block_x ?_ | refine e_block_y rfl ?_)) | refine l_ends ?_)
  · refine e_round (j + 1) (by omega) ⟨slook_to rfl (vint_to (by push_cast; rfl)), (by repeat' first | exact trivial | refine ⟨rfl, ?_⟩)⟩ (fun w hw => ?_) (by omega)
    have e : (gl (mixG (fun p q => p && !q) g f j)).set (0 + (j : Int).toNat * 1) (.int .i64 (Sx.bits (fun i => (fun p q => p && !q) (mixG (fun p q => p && !q) g f j j i) (f j i)) 16 : Nat)) = gl (mixG (fun p q => p && !q) g f (j + 1)) := by
      rw [Nat.zero_add, Nat.mul_one, Int.toNat_natCast, gl_set _ (by omega), gl_congr (mixG_next (fun p q => p && !q) g f)]
    rw [← e]; exact hw
  · refine s_leaveSF rfl rfl rfl fwA (fun w hw => ⟨?_, hw.below⟩)
    show Ending.returned (gval (mixG (fun p q => p && !q) g f j)) = _
    rw [gval_congr (mixG_all (fun p q => p && !q) g f (by omega))]; rfl
end Go.Proofs.YtfmjeakcfmmkfaaGreat
/-
  Contract: the canonical form of a grid, by the program.
-/
set_option linter.unusedVariables false
namespace Go.Proofs.YtfmjeakcfmmkfaaGreat
open Go Sx
attribute [local irreducible] Exit.then Exit.inBlock bodyPost Sx.bits canonR rowR
theorem OVs.one {α : Type} {c : α → List Value} {k : Nat} {T : TypeId} {v : Value} {l : List α} {H : SPiece} (h : OVs c k T v l H) : v.oneCell' = true := by
  obtain ⟨a, q, rfl⟩ := h.form; rfl
theorem bits_same {g : Grid} {y z : Nat} : ((Sx.bits (g z) 16 : Nat) : Int) = (Sx.bits (g y) 16 : Nat) ↔ sameRow g y z = true := by
  rw [sameRow_iff]
  constructor
  · intro h; exact bits_inj.1 (by omega)
  · intro h; rw [bits_inj.2 h]
theorem hgt_of {g : Grid} {y e : Nat} (h1 : y + 1 ≤ e) (h2 : ∀ z, y < z → z < e → z < 16 ∧ sameRow g y z = true) (h3 : ¬ (e < 16 ∧ sameRow g y e = true)) : hgt g y = e - y := by
  have := rnl_eq (f := sameRow g y) (x := y + 1) (w := e - (y + 1)) (fun i a b => h2 i (by omega) (by omega)) (by rw [show y + 1 + (e - (y + 1)) = e by omega]; exact h3)
  unfold hgt; omega
theorem rnl_of {f : Nat → Bool} {x z : Nat} (h1 : x ≤ z) (h2 : ∀ i, x ≤ i → i < z → i < 16 ∧ f i = true) (h3 : ¬ (z < 16 ∧ f z = true)) : rnl f x = z - x :=
  rnl_eq (fun i a b => h2 i a (by omega)) (by rw [show x + (z - x) = z by omega]; exact h3)
theorem rowR_app {f : Nat → Bool} {y h : Int} {x z : Nat} (hx : x < 16) (h1 : x < z) (h2 : ∀ i, x ≤ i → i < z → i < 16 ∧ f i = true) (h3 : ¬ (z < 16 ∧ f z = true)) : rowR f y h x = [⟨x, y, (z : Int) - x, h⟩] ++ rowR f y h (z + 1) := by
  have e := rnl_of (Nat.le_of_lt h1) h2 h3
  rw [rowR_step hx, e, if_neg (by omega), show x + (z - x) + 1 = z + 1 by omega, show (((z - x : Nat)) : Int) = (z : Int) - x by omega]
theorem rowR_skip {f : Nat → Bool} {y h : Int} {x : Nat} (hx : x < 16) (h3 : ¬ (x < 16 ∧ f x = true)) : rowR f y h x = rowR f y h (x + 1) := by
  have e := rnl_of (Nat.le_refl x) (fun i a c => by omega) h3
  rw [rowR_step hx, e, if_pos (by omega), show x + (x - x) + 1 = x + 1 by omega]; rfl
set_option maxHeartbeats 4000000 in
theorem c_gregion (g : Grid) (W : World) : SYieldsF Tryz.prog 67 #[gval g] (fun u H => OReg u (canon g) H) W := by
  (first | apply SYields.mk | apply SYieldsF.mk | skip); refine s_enter Tryz.func67 rfl Tryz.ntmps67 rfl ?_
  repeat' (first | exact rfl | (apply kO; (first | exact ov_pure rfl | (apply kOBin; (first | exact aBin | exact (ov_andBit rfl rfl (by omega)))) | (apply kOCall; (first | (apply kCallB; (first | exact aBlt | exact aLenR)))) | (apply kOLoad; (first | exact (ov_ldG g rfl rfl gpA (by omega)) | exact aLdF | exact aLdR)) | exact ov_fieldAddr rfl | (apply kOIdx; (first | exact (ov_indexAddrA rfl rfl (by omega)) | exact aIdx)) | exact aRest | exact (ov_bit rfl rfl (by omega)) | exact aNew | exact (ov_field1 (ft := 31) rfl rfl rfl rfl))) | (refine kN ?_; (first | (refine kCall ?_; (first | (refine kWApp ?_; (refine s_appendVs _ _ (c := cRect) (kk := 4) (a := ⟨x.1, y.1, (z : Int) - x.1, (e : Int) - y.1⟩) rfl rfl (by assumption) gpA gpA rfl rfl (by rw [scells_eq]; rfl) (by decide) (by omega) (by decide) rfl (fun v' H' hv' => ?_); have f1 := hv'.form; obtain ⟨ua, uc, rfl⟩ := f1)) | apply s_step)) | (refine kStore ?_; (first | (refine s_storeS _ rfl rfl gpA rfl (ones_cons (OVs.one (by assumption)) rfl) (by rfl) ?_) | refine s_store1 _ rfl rfl gpA rfl (by rfl) ?_ | refine s_storeS _ rfl rfl gpA rfl rfl (by rfl) ?_ | refine s_storeS _ rfl rfl gpA rfl (ones_img oiA) (by rfl) ?_)) | refine s_boxS rfl rfl (fun b hb => ?_) | refine s_allocS rfl (fun b hb => ?_) | refine s_box1 rfl rfl rfl (fun b hb => ?_) | refine s_alloc1 rfl rfl (fun b hb => ?_) | refine s_buildSlice0 rfl (fun b hb => ?_) | refine s_buildSlice rfl rfl rfl rfl rfl (fun b hb => ?_) | apply s_step)) | (refine kG ?_; (first | refine s_gyes rfl rfl rfl ?_ | refine s_gno rfl rfl rfl rfl rfl ?_ | ((first | refine s_split_d rfl rfl (fun h => ?_) (fun h => ?_) | refine s_split_n rfl rfl (fun h => ?_) (fun h => ?_)) <;> (try (first | contradiction | (exfalso; omega)))) | refine s_split_nb rfl rfl (fun h => ?_) (fun h => ?_) | refine s_split rfl rfl (fun h => ?_) (fun h => ?_))) | refine l_then ?_ | (refine kC ?_; (first | (refine c_loopV (ι := Nat × List DRect × Value × SPiece) (fun y => y.1 ≤ 16 ∧ ORects y.2.2.1 y.2.1 y.2.2.2 ∧ y.2.1 ++ canonR g y.1 = canon g ∧ y.2.1.length ≤ 8 * y.1) (fun y => [(4, .int .i64 (y.1 : Int))]) (fun y => [[(_, srow [y.2.2.1] 43)], y.2.2.2, _, _]) (fun y => 16 - y.1) (0, [], _, []) ⟨by dsimp only; omega, OVs.nil, (show [] ++ canonR g 0 = canonR g 0 from List.nil_append _), by dsimp only; simp⟩ rfl (fun _ => rfl) ⟨rfl, trivial⟩ (fun w hw => hw.nil1) (fun y hy => ?_); obtain ⟨hy1, hy2, hy3, hy4⟩ := hy) | (refine c_loopV (ι := Nat) (fun e => (y.1 + 1 ≤ e ∧ e ≤ 16) ∧ ∀ z, y.1 < z → z < e → z < 16 ∧ sameRow g y.1 z = true) (fun e => [(5, .int .i64 (e : Int))]) (fun e => [_, _, _, _]) (fun e => 16 - e) (y.1 + 1) ⟨by omega, fun z a b => by omega⟩ rfl (fun _ => rfl) ⟨slook_to rfl (vint_to (by push_cast; rfl)), trivial⟩ (fun w hw => hw) (fun e he => ?_); obtain ⟨he1, he2⟩ := he) | (refine c_loopV (ι := Nat × List DRect × Value × SPiece) (fun x => x.1 ≤ 17 ∧ ORects x.2.2.1 x.2.1 x.2.2.2 ∧ x.2.1 ++ (rowR (g y.1) y.1 ((e : Int) - y.1) x.1 ++ canonR g e) = canon g ∧ x.2.1.length ≤ 8 * y.1 + x.1 / 2) (fun x => [(6, .int .i64 (x.1 : Int))]) (fun x => [[(_, srow [x.2.2.1] 43)], x.2.2.2, _, _]) (fun x => 17 - x.1) (0, y.2.1, y.2.2.1, y.2.2.2) ⟨by dsimp only; omega, hy2, by dsimp only; rw [← hy3, canonR_step (g := g) (y := y.1) (by omega), hgt_of he1.1 he2 (fun hh => by first | omega | (exact absurd (bits_same.2 hh.2) (by assumption))), show y.1 + (e - y.1) = e by omega, show (((e - y.1 : Nat)) : Int) = (e : Int) - y.1 by omega], by dsimp only; omega⟩ rfl (fun _ => rfl) ⟨rfl, trivial⟩ (fun w hw => hw) (fun x hx => ?_); obtain ⟨hx1, hx2, hx3, hx4⟩ := hx) | (refine c_loopV (ι := Nat) (fun z => (x.1 ≤ z ∧ z ≤ 16) ∧ ∀ i, x.1 ≤ i → i < z → i < 16 ∧ g y.1 i = true) (fun z => [(6, .int .i64 (z : Int))]) (fun z => [_, _, _, _]) (fun z => 16 - z) x.1 ⟨by omega, fun i a b => by omega⟩ rfl (fun _ => rfl) ⟨rfl, trivial⟩ (fun w hw => hw) (fun z hz => ?_); obtain ⟨hz1, hz2⟩ := hz) | refine c_seq ?_ | refine c_regionN rfl ?_ | refine c_ret ?_ | (refine kCond ?_; (first | refine c_cond_t rfl ?_ | refine c_cond_f rfl ?_ | ((first | refine c_cond_d rfl (fun h => ?_) (fun h => ?_) | refine c_cond_n rfl (fun h => ?_) (fun h => ?_)) <;> (try (first | contradiction | (exfalso; omega)))) | refine c_cond_nb rfl (fun h => ?_) (fun h => ?_) | refine c_cond rfl (fun h => ?_) (fun h => ?_))) | refine c_block ?_ | refine c_skip ?_ | refine c_exit ?_ | refine c_regionQN rfl rfl (by decide +kernel) ?_)) | apply s_stepQ | (refine kQG ?_; (first | refine s_gyesQ rfl rfl rfl ?_ | refine s_gnoQ rfl rfl rfl rfl rfl ?_ | ((first | refine s_splitQ_d rfl rfl (fun h => ?_) (fun h => ?_) | refine s_splitQ_n rfl rfl (fun h => ?_) (fun h => ?_)) <;> (try (first | contradiction | (exfalso; omega)))) | refine s_splitQ_nb rfl rfl (fun h => ?_) (fun h => ?_) | refine s_splitQ rfl rfl (fun h => ?_) (fun h => ?_))) | refine lQ_then ?_ | refine lQ_ends ?_ | (refine kE ?_; (first | refine e_then_r ?_ | refine e_block_r ?_ | refine e_then_n ?_ | refine e_then_x ?_ | refine e_block_n ?_ | refine e_block_x ?_ | refine e_block_y rfl ?_)) | refine l_ends ?_)
  · refine e_round (e + 1) ⟨by omega, fun z a c => ?_⟩ ⟨slook_to rfl (vint_to (by push_cast; rfl)), (by repeat' first | exact trivial | refine ⟨rfl, ?_⟩)⟩ (fun w hw => hw) (by omega)
    by_cases e0 : z = e
    · subst e0; exact ⟨by omega, bits_same.1 h⟩
    · exact he2 z a (by omega)
  · refine e_round (z + 1) ⟨by omega, fun i a c => ?_⟩ ⟨slook_to rfl (vint_to (by push_cast; rfl)), (by repeat' first | exact trivial | refine ⟨rfl, ?_⟩)⟩ (fun w hw => hw) (by omega)
    by_cases e0 : i = z
    · subst e0; exact ⟨by omega, bit_ne.1 h⟩
    · exact hz2 i a (by omega)
  · have hxz : x.1 < z := by omega
    have hn : ¬ (z < 16 ∧ g y.1 z = true) := fun hh => by first | omega | exact absurd (bit_ne.2 hh.2) (by assumption)
    refine e_round (z + 1, _, _, H') ⟨by dsimp only; omega, hv', ?_, by dsimp only; rw [List.length_append, List.length_singleton]; omega⟩ ⟨slook_to rfl (vint_to (by push_cast; rfl)), (by repeat' first | exact trivial | refine ⟨rfl, ?_⟩)⟩ (fun w hw => hw.sub (selO_sub [false, true, true, true, true] _ _ rfl)) (by dsimp only; omega)
    dsimp only
    rw [← hx3, rowR_app (f := g y.1) (y := y.1) (h := (e : Int) - y.1) (by omega) hxz hz2 hn, List.append_assoc, List.append_assoc]
  · have hxz : z = x.1 := by omega
    have hn : ¬ (z < 16 ∧ g y.1 z = true) := fun hh => by first | omega | exact absurd (bit_ne.2 hh.2) (by assumption)
    subst hxz
    refine e_round (x.1 + 1, x.2.1, x.2.2.1, x.2.2.2) ⟨by dsimp only; omega, hx2, ?_, by dsimp only; omega⟩ ⟨slook_to rfl (vint_to (by push_cast; rfl)), (by repeat' first | exact trivial | refine ⟨rfl, ?_⟩)⟩ (fun w hw => hw) (by dsimp only; omega)
    dsimp only
    rw [← rowR_skip (f := g y.1) (y := y.1) (h := (e : Int) - y.1) (by omega) hn]; exact hx3
  · have hxz : x.1 < z := by omega
    have hn : ¬ (z < 16 ∧ g y.1 z = true) := fun hh => by first | omega | exact absurd (bit_ne.2 hh.2) (by assumption)
    refine e_round (z + 1, _, _, H') ⟨by dsimp only; omega, hv', ?_, by dsimp only; rw [List.length_append, List.length_singleton]; omega⟩ ⟨slook_to rfl (vint_to (by push_cast; rfl)), (by repeat' first | exact trivial | refine ⟨rfl, ?_⟩)⟩ (fun w hw => hw.sub (selO_sub [false, true, true, true, true] _ _ rfl)) (by dsimp only; omega)
    dsimp only
    rw [← hx3, rowR_app (f := g y.1) (y := y.1) (h := (e : Int) - y.1) (by omega) hxz hz2 hn, List.append_assoc, List.append_assoc]
  · rw [rowR_done (by omega), List.nil_append] at hx3
    exact e_round (e, x.2.1, x.2.2.1, x.2.2.2) ⟨by dsimp only; omega, hx2, hx3, by dsimp only; omega⟩ ⟨slook_to rfl (vint_to (by rfl)), (by repeat' first | exact trivial | refine ⟨rfl, ?_⟩)⟩ (fun w hw => hw) (by dsimp only; omega)
  · refine e_round (z + 1) ⟨by omega, fun i a c => ?_⟩ ⟨slook_to rfl (vint_to (by push_cast; rfl)), (by repeat' first | exact trivial | refine ⟨rfl, ?_⟩)⟩ (fun w hw => hw) (by omega)
    by_cases e0 : i = z
    · subst e0; exact ⟨by omega, bit_ne.1 h⟩
    · exact hz2 i a (by omega)
  · have hxz : x.1 < z := by omega
    have hn : ¬ (z < 16 ∧ g y.1 z = true) := fun hh => by first | omega | exact absurd (bit_ne.2 hh.2) (by assumption)
    refine e_round (z + 1, _, _, H') ⟨by dsimp only; omega, hv', ?_, by dsimp only; rw [List.length_append, List.length_singleton]; omega⟩ ⟨slook_to rfl (vint_to (by push_cast; rfl)), (by repeat' first | exact trivial | refine ⟨rfl, ?_⟩)⟩ (fun w hw => hw.sub (selO_sub [false, true, true, true, true] _ _ rfl)) (by dsimp only; omega)
    dsimp only
    rw [← hx3, rowR_app (f := g y.1) (y := y.1) (h := (e : Int) - y.1) (by omega) hxz hz2 hn, List.append_assoc, List.append_assoc]
  · have hxz : z = x.1 := by omega
    have hn : ¬ (z < 16 ∧ g y.1 z = true) := fun hh => by first | omega | exact absurd (bit_ne.2 hh.2) (by assumption)
    subst hxz
    refine e_round (x.1 + 1, x.2.1, x.2.2.1, x.2.2.2) ⟨by dsimp only; omega, hx2, ?_, by dsimp only; omega⟩ ⟨slook_to rfl (vint_to (by push_cast; rfl)), (by repeat' first | exact trivial | refine ⟨rfl, ?_⟩)⟩ (fun w hw => hw) (by dsimp only; omega)
    dsimp only
    rw [← rowR_skip (f := g y.1) (y := y.1) (h := (e : Int) - y.1) (by omega) hn]; exact hx3
  · have hxz : x.1 < z := by omega
    have hn : ¬ (z < 16 ∧ g y.1 z = true) := fun hh => by first | omega | exact absurd (bit_ne.2 hh.2) (by assumption)
    refine e_round (z + 1, _, _, H') ⟨by dsimp only; omega, hv', ?_, by dsimp only; rw [List.length_append, List.length_singleton]; omega⟩ ⟨slook_to rfl (vint_to (by push_cast; rfl)), (by repeat' first | exact trivial | refine ⟨rfl, ?_⟩)⟩ (fun w hw => hw.sub (selO_sub [false, true, true, true, true] _ _ rfl)) (by dsimp only; omega)
    dsimp only
    rw [← hx3, rowR_app (f := g y.1) (y := y.1) (h := (e : Int) - y.1) (by omega) hxz hz2 hn, List.append_assoc, List.append_assoc]
  · rw [rowR_done (by omega), List.nil_append] at hx3
    exact e_round (e, x.2.1, x.2.2.1, x.2.2.2) ⟨by dsimp only; omega, hx2, hx3, by dsimp only; omega⟩ ⟨slook_to rfl (vint_to (by rfl)), (by repeat' first | exact trivial | refine ⟨rfl, ?_⟩)⟩ (fun w hw => hw) (by dsimp only; omega)
  · have e0 : y.1 = 16 := by omega
    rw [e0, canonR_done (by omega), List.append_nil] at hy3
    rw [hy3] at hy2
    exact s_leaveSF rfl rfl rfl fwA (fun w hw => ⟨_, _, rfl, ⟨_, rfl, hy2⟩, hw.toFresh (H := y.2.2.2) gpA⟩)
end Go.Proofs.YtfmjeakcfmmkfaaGreat
/-
  The plain functions, continued: the points of rectangles, one by one. No program in sight.
-/
set_option linter.unusedVariables false
namespace Sx
/-- a rectangle is marked up to row j, and in that row up to place i -/
def boxG (r : DRect) (old : Grid) (j i : Nat) : Grid := fun b a => old b a || decide ((r.X ≤ (a : Int) ∧ (a : Int) < r.X + r.W ∧ r.Y ≤ (b : Int)) ∧ ((b : Int) < r.Y + j ∨ ((b : Int) = r.Y + j ∧ (a : Int) < r.X + i)))
def putG (g : Grid) (y x : Nat) : Grid := fun b a => if b = y ∧ a = x then true else g b a
theorem boxG_zero (r : DRect) (old : Grid) : (boxG r old 0 0).eqv old := fun b a _ _ => by
  unfold boxG; rw [decide_eq_false (by omega), Bool.or_false]
theorem boxG_next {r : DRect} {old : Grid} {j i : Nat} (h0 : 0 ≤ r.X ∧ 0 ≤ r.Y) (hi : (i : Int) < r.W) : (putG (boxG r old j i) (r.Y + j).toNat (r.X + i).toNat).eqv (boxG r old j (i + 1)) := fun b a _ _ => by
  unfold putG boxG
  by_cases e : b = (r.Y + j).toNat ∧ a = (r.X + i).toNat
  · rw [if_pos e, decide_eq_true (by push_cast; omega), Bool.or_true]
  · rw [if_neg e]
    congr 1
    exact decide_eq_decide.2 ⟨fun h => ⟨h.1, by push_cast; omega⟩, fun h => ⟨h.1, by have h2 := h.2; push_cast at h2; omega⟩⟩
theorem boxG_row {r : DRect} {old : Grid} {j i : Nat} (hi : r.W ≤ (i : Int)) : (boxG r old j i).eqv (boxG r old (j + 1) 0) := fun b a _ _ => by
  unfold boxG
  congr 1
  exact decide_eq_decide.2 ⟨fun h => ⟨h.1, by push_cast; omega⟩, fun h => ⟨h.1, by have h2 := h.2; push_cast at h2; omega⟩⟩
theorem boxG_all {r : DRect} (h : r.ok) {old : Grid} {j : Nat} (hj : r.H = (j : Int)) : (boxG r old j 0).eqv (old.or (rectG r)) := fun b a _ _ => by
  unfold boxG Grid.or rectG DRect.holds
  congr 1
  exact decide_eq_decide.2 ⟨fun hh => ⟨h, by omega⟩, fun hh => by have h2 := hh.2; omega⟩
theorem points_take {l : List DRect} {k : Nat} (h : k < l.length) : points (l.take (k + 1)) = (points (l.take k)).or (rectG (l.getD k DRect.zero)) := by
  rw [List.take_add_one, List.getElem?_eq_getElem h, Option.toList_some, points_congr_append, points_one]
  congr 2
  rw [List.getD_eq_getElem?_getD, List.getElem?_eq_getElem h]; rfl
theorem points_take_screen {l : List DRect} {k : Nat} (h : k < l.length) : ((points (l.take k)).or (rectG ((l.getD k DRect.zero).inter DRect.screen))).eqv (points (l.take (k + 1))) := by
  rw [points_take h]
  exact Grid.or_congr (Grid.eqv.refl _) inter_screen
end Sx
/-
  The plain functions, continued: regions joined place by place, areas, marks. No program in sight.
-/
set_option linter.unusedVariables false
namespace Sx
/-- the first j places are joined -/
def placeG (op : Bool → Bool → Bool) (g h : Grid) (j : Nat) : Grid := fun y x => if y * 16 + x < j then op (g y x) (h y x) else g y x
theorem placeG_zero (op : Bool → Bool → Bool) (g h : Grid) : placeG op g h 0 = g := by funext y x; unfold placeG; rw [if_neg (by omega)]
theorem placeG_all (op : Bool → Bool → Bool) (g h : Grid) {j : Nat} (hj : 256 ≤ j) : (placeG op g h j).eqv (fun y x => op (g y x) (h y x)) := fun y x hy hx => by unfold placeG; rw [if_pos (by omega)]
/-- or, and, without -/
def joinOp (kind : Int) (p q : Bool) : Bool := if kind = 0 then p || q else if kind = 1 then p && q else p && !q
def joinOf (kind : Int) (a c : List DRect) : List DRect := if regionOk a ∧ regionOk c then canon (fun y x => joinOp kind (points a y x) (points c y x)) else []
def withoutOf (a c : List DRect) : List DRect := if regionOk a ∧ regionOk c then canon ((points a).without (points c)) else []
def unionOf (a c : List DRect) : List DRect := if regionOk a ∧ regionOk c then canon ((points a).or (points c)) else []
theorem joinOf_two (a c : List DRect) : joinOf 2 a c = withoutOf a c := by
  unfold joinOf withoutOf
  split
  · exact canon_congr (fun y x _ _ => by simp [joinOp, Grid.without])
  · rfl
theorem joinOf_zero (a c : List DRect) : joinOf 0 a c = unionOf a c := by
  unfold joinOf unionOf
  split
  · exact canon_congr (fun y x _ _ => by simp [joinOp, Grid.or])
  · rfl
def areaOf (l : List DRect) : Int := if regionOk l then area l else 0
theorem area_take_succ {l : List DRect} {j : Nat} (h : j < l.length) : area (l.take (j + 1)) = area (l.take j) + (l.getD j DRect.zero).W * (l.getD j DRect.zero).H := by
  rw [List.take_add_one, List.getElem?_eq_getElem h, area_append]
  simp [area, List.getD_eq_getElem?_getD, List.getElem?_eq_getElem h]
theorem inScreen_side {r : DRect} (h : r.inScreen) : (1 ≤ r.W ∧ r.W ≤ 16) ∧ (1 ≤ r.H ∧ r.H ≤ 16) := by unfold DRect.inScreen at h; omega
theorem inScreen_area {r : DRect} (h : r.inScreen) : 0 ≤ r.W * r.H ∧ r.W * r.H ≤ 256 := by
  have := inScreen_side h
  constructor
  · exact Int.mul_nonneg (by omega) (by omega)
  · exact Int.le_trans (Int.mul_le_mul this.1.2 (Int.le_refl _) (by omega) (by omega)) (by omega)
theorem getD_inScreen {l : List DRect} (h : regionOk l) {j : Nat} (hj : j < l.length) : (l.getD j DRect.zero).inScreen := by
  rw [List.getD_eq_getElem?_getD, List.getElem?_eq_getElem hj]
  exact h.inScreen (List.getElem_mem hj)
theorem area_take_bd {l : List DRect} (h : regionOk l) : ∀ j, 0 ≤ area (l.take j) ∧ area (l.take j) ≤ 256 * j
  | 0 => ⟨Int.le_refl _, Int.le_refl _⟩
  | j + 1 => by
    have ih := area_take_bd h j
    by_cases hj : j < l.length
    · have := inScreen_area (getD_inScreen h hj)
      rw [area_take_succ hj]
      push_cast; omega
    · rw [List.take_of_length_le (by omega)] at ih ⊢
      push_cast; omega
theorem areaOf_bd (l : List DRect) : 0 ≤ areaOf l ∧ areaOf l ≤ 256 * l.length := by
  unfold areaOf
  split
  · rename_i h
    have := area_take_bd h l.length
    rwa [List.take_length] at this
  · omega
theorem sumN_le16 (f : Nat → Nat) (h : ∀ y, f y ≤ 16) : sumN f 16 ≤ 256 := by
  have : ∀ n, sumN f n ≤ 16 * n := fun n => by
    induction n with
    | zero => exact Nat.le_refl _
    | succ n ih => have := h n; simp only [sumN]; omega
  exact this 16
/-- rectangles of ascending numbers -/
def iotaR (k : Int) (n : Nat) : List DRect := (List.range n).map (fun i : Nat => ⟨k + 4 * i, k + 4 * i + 1, k + 4 * i + 2, k + 4 * i + 3⟩)
theorem iotaR_length (k : Int) (n : Nat) : (iotaR k n).length = n := by simp [iotaR]
theorem iotaR_get (k : Int) {n i : Nat} (h : i < n) : (iotaR k n).getD i DRect.zero = ⟨k + 4 * i, k + 4 * i + 1, k + 4 * i + 2, k + 4 * i + 3⟩ := by
  simp [iotaR, List.getD_eq_getElem?_getD, h]
theorem iotaR_succ (k : Int) (n : Nat) : iotaR k (n + 1) = iotaR k n ++ [⟨k + 4 * n, k + 4 * n + 1, k + 4 * n + 2, k + 4 * n + 3⟩] := by
  simp [iotaR, List.range_succ]
/-- points of a list's first rectangles that are valid -/
theorem points_take_ok {l : List DRect} {k : Nat} (h : k < l.length) (hk : ¬ (l.getD k DRect.zero).ok) : points (l.take (k + 1)) = points (l.take k) := by
  rw [points_take h]
  funext y x
  unfold Grid.or rectG DRect.holds
  rw [decide_eq_false (fun hh => hk hh.1), Bool.or_false]
/-! covered: the first m surfaces of a list -/
def hideG (l : List DSurf) (m : Nat) : Grid := fun y x => (l.take m).any (fun q => hides q y x)
theorem hideG_zero (l : List DSurf) : hideG l 0 = Grid.none := by funext y x; rfl
theorem hideG_succ {l : List DSurf} {m : Nat} (h : m < l.length) (y x : Nat) : hideG l (m + 1) y x = (hideG l m y x || hides (l.getD m default) y x) := by
  unfold hideG
  rw [List.take_add_one, List.any_append, List.getElem?_eq_getElem h, List.getD_eq_getElem?_getD, List.getElem?_eq_getElem h]
  simp
theorem hideG_yes {l : List DSurf} {m : Nat} (h : m < l.length) (ho : isOpaqueS (l.getD m default)) : (hideG l m).or (rectG (surfRect (l.getD m default))) = hideG l (m + 1) := by
  funext y x
  rw [hideG_succ h]
  unfold Grid.or hides rectG
  rw [decide_eq_true ho, Bool.true_and]
theorem hideG_no {l : List DSurf} {m : Nat} (h : m < l.length) (ho : ¬ (isOpaqueS (l.getD m default) ∧ (l.getD m default).Visible = true)) : hideG l (m + 1) = hideG l m := by
  funext y x
  rw [hideG_succ h]
  unfold hides
  by_cases h1 : isOpaqueS (l.getD m default)
  · have hv : ¬ (l.getD m default).Visible = true := fun e => ho ⟨h1, e⟩
    unfold DRect.holds
    rw [surfRect_hid hv, decide_eq_false (zero_has _ _), Bool.and_false, Bool.or_false]
  · rw [decide_eq_false h1, Bool.false_and, Bool.or_false]
theorem coverG_hide (s : DScene) (n : Nat) {m : Nat} (hm : (s.ss.drop n).length ≤ m) : coverG s n = (hideG (s.ss.drop n) m).and (scrG s) := by
  unfold coverG hideG
  rw [List.take_of_length_le hm]
def coverOf (s : DScene) (k : Int) : List DRect := if s.ok ∧ (-1 ≤ k ∧ k ≤ (s.ss.length : Int) - 1) then canon (coverG s (k + 1).toNat) else []
def visibleOf (s : DScene) (k : Int) : List DRect := if s.ok ∧ (0 ≤ k ∧ k ≤ (s.ss.length : Int) - 1) then canon (seenG s k.toNat) else []
theorem coverOf_ok (s : DScene) (k : Int) : regionOk (coverOf s k) := by
  unfold coverOf; split
  · exact regionOk_canon _
  · exact regionOk_nil
theorem visibleOf_ok (s : DScene) (k : Int) : regionOk (visibleOf s k) := by
  unfold visibleOf; split
  · exact regionOk_canon _
  · exact regionOk_nil
/-! the reference's list of what covers -/
def coverL (s : DScene) (k : Nat) : Nat → List DRect
  | 0 => []
  | m + 1 => coverL s k m ++ (if isOpaqueS (s.ss.getD (k + m) default) then [(surfRect (s.ss.getD (k + m) default)).inter (scrR s)] else [])
theorem coverL_length (s : DScene) (k : Nat) : ∀ m, (coverL s k m).length ≤ m
  | 0 => Nat.le_refl _
  | m + 1 => by
    have := coverL_length s k m
    unfold coverL
    rw [List.length_append]
    split <;> simp <;> omega
theorem coverL_points {s : DScene} (h : s.ok) (k : Nat) : ∀ m, k + m ≤ s.ss.length → points (coverL s k m) = (hideG (s.ss.drop k) m).and (scrG s)
  | 0, _ => by
    funext y x
    rw [hideG_zero]; rfl
  | m + 1, hm => by
    have ih := coverL_points h k m (by omega)
    have hd : m < (s.ss.drop k).length := by rw [List.length_drop]; omega
    have hg : (s.ss.drop k).getD m default = s.ss.getD (k + m) default := by
      rw [List.getD_eq_getElem?_getD, List.getD_eq_getElem?_getD, List.getElem?_drop]
    funext y x
    unfold coverL
    rw [points_append, ih]
    unfold Grid.and
    rw [hideG_succ hd, hg]
    unfold hides
    by_cases ho : isOpaqueS (s.ss.getD (k + m) default)
    · rw [if_pos ho, points_one, decide_eq_true ho, Bool.true_and, Bool.and_or_distrib_right]
      unfold rectG scrG
      rw [inter_holds (scrR_ok h)]; rfl
    · rw [if_neg ho, points_nil, decide_eq_false ho, Bool.false_and, Bool.or_false, Bool.or_false]
theorem coverL_all {s : DScene} (h : s.ok) (k : Nat) (hk : k ≤ s.ss.length) : points (coverL s k (s.ss.length - k)) = coverG s k := by
  rw [coverL_points h k _ (by omega), coverG_hide s k (m := s.ss.length - k) (by rw [List.length_drop]; omega)]
theorem visibleOf_join {s : DScene} (h : s.ok) {k : Nat} (hk : k < s.ss.length) : withoutOf (canon (points [(surfRect (s.ss.getD k default)).inter (scrR s)])) (coverOf s k) = visibleOf s k := by
  unfold withoutOf visibleOf
  rw [if_pos ⟨regionOk_canon _, coverOf_ok s k⟩, if_pos ⟨h, by omega⟩]
  refine canon_congr (fun y x hy hx => ?_)
  unfold seenG Grid.without
  rw [points_canon _ y x hy hx, points_one]
  unfold coverOf
  rw [if_pos ⟨h, by omega⟩, points_canon _ y x hy hx, show ((k : Int) + 1).toNat = k + 1 by omega]
  show ((rectG ((surfRect (s.ss.getD k default)).inter (scrR s)) y x) && _) = _
  unfold rectG
  rw [inter_holds (scrR_ok h), show ((k : Int)).toNat = k from rfl]
  rfl
end Sx
/-
  Contracts: regions of the program.
-/
set_option linter.unusedVariables false
namespace Go.Proofs.YtfmjeakcfmmkfaaGreat
open Go Sx
attribute [local irreducible] Exit.then Exit.inBlock bodyPost OVs OInts canonR rowR points Sx.canon
set_option maxHeartbeats 4000000 in
theorem c_gridOfRegion (v : Value) (l : List DRect) (W : World) (hv : RRects W v l) : SYields Tryz.prog 68 #[vReg v] (gval (points l)) W := by
  have hll := hv.len
  have hv' := hv.form
  obtain ⟨_, _, rfl⟩ := hv'
  have h0 : points (l.take 0) = Grid.none := by unfold points; funext y x; rfl
  (first | apply SYields.mk | apply SYieldsF.mk | skip); refine s_enter Tryz.func68 rfl Tryz.ntmps68 rfl ?_
  repeat' (first | exact rfl | (apply kO; (first | exact ov_pure rfl | (apply kOBin; (first | exact aBin)) | (apply kOCall; (first | (apply kCallF; (first | exact (ov_call rfl (fun w hw => c_gridOf (l.getD j DRect.zero) w)) | exact (ov_call rfl (fun w hw => c_gor (points (l.take j)) (rectG (l.getD j DRect.zero)) w)))) | (apply kCallB; (first | exact aBlt | exact aLenR)))) | (apply kOLoad; (first | exact (ov_ldRZ (fun w hw => RRow.keep hv (hw.cells rfl)) rfl rfl (by omega) rfl) | exact aLdF | exact aLdR)) | exact ov_fieldAddr rfl | (apply kOIdx; (first | exact (ov_idxR (fun w hw => RRow.keep hv (hw.cells rfl)) rfl rfl (by omega)) | exact aIdx)) | exact aRest | exact (ov_buildA0) | exact aNew | exact (ov_field1 (ft := 31) rfl rfl rfl rfl))) | (refine kN ?_; (first | (refine kStore ?_; (first | refine s_store1 _ rfl rfl gpA rfl (by rfl) ?_ | refine s_storeS _ rfl rfl gpA rfl rfl (by rfl) ?_ | refine s_storeS _ rfl rfl gpA rfl (ones_img oiA) (by rfl) ?_)) | refine s_boxS rfl rfl (fun b hb => ?_) | refine s_allocS rfl (fun b hb => ?_) | refine s_box1 rfl rfl rfl (fun b hb => ?_) | refine s_alloc1 rfl rfl (fun b hb => ?_) | refine s_buildSlice0 rfl (fun b hb => ?_) | refine s_buildSlice rfl rfl rfl rfl rfl (fun b hb => ?_) | apply s_step)) | (refine kG ?_; (first | refine s_gyes rfl rfl rfl ?_ | refine s_gno rfl rfl rfl rfl rfl ?_ | ((first | refine s_split_d rfl rfl (fun h => ?_) (fun h => ?_) | refine s_split_n rfl rfl (fun h => ?_) (fun h => ?_)) <;> (try (first | contradiction | (exfalso; omega)))) | refine s_split_nb rfl rfl (fun h => ?_) (fun h => ?_) | refine s_split rfl rfl (fun h => ?_) (fun h => ?_))) | (refine kS ?_; (first | refine h_exec rfl ?_ | refine h_take_nil rfl rfl rfl ?_ | refine h_take_pick rfl rfl rfl ?_ | refine h_nil ?_ | refine h_alt ?_ ?_ | apply h_take)) | (refine kBack ?_; (first | refine h_back_last rfl ?_ | refine h_backN rfl subA ?_)) | refine l_then ?_ | (refine kC ?_; (first | (refine kReg 5 ?_; refine c_regionSN (SPlan.take 0 (SPlan.take 1 (SPlan.run 2 (SPlan.run 3 (SPlan.run 4 SPlan.done))))) (some 4) rfl rfl (by decide +kernel) ?_) | (refine kReg 5 ?_; refine c_regionSN (SPlan.take 0 (SPlan.take 1 (SPlan.run 2 (SPlan.run 3 (SPlan.run 4 SPlan.done))))) none rfl rfl (by decide +kernel) ?_) | (refine c_loopV (ι := Nat) (fun j => j ≤ l.length) (fun j => [(10, .int .i64 (j : Int))]) (fun j => [[(_, srow (gl (points (l.take j))) _)], _, _]) (fun j => l.length - j) 0 (by omega) rfl (fun _ => rfl) ⟨rfl, trivial⟩ (fun w hw => by rw [h0]; exact hw) (fun j hj => ?_)) | refine c_seq ?_ | refine c_regionN rfl ?_ | refine c_ret ?_ | (refine kCond ?_; (first | refine c_cond_t rfl ?_ | refine c_cond_f rfl ?_ | ((first | refine c_cond_d rfl (fun h => ?_) (fun h => ?_) | refine c_cond_n rfl (fun h => ?_) (fun h => ?_)) <;> (try (first | contradiction | (exfalso; omega)))) | refine c_cond_nb rfl (fun h => ?_) (fun h => ?_) | refine c_cond rfl (fun h => ?_) (fun h => ?_))) | refine c_block ?_ | refine c_skip ?_ | refine c_exit ?_ | refine c_regionQN rfl rfl (by decide +kernel) ?_)) | apply s_stepQ | (refine kQG ?_; (first | refine s_gyesQ rfl rfl rfl ?_ | refine s_gnoQ rfl rfl rfl rfl rfl ?_ | ((first | refine s_splitQ_d rfl rfl (fun h => ?_) (fun h => ?_) | refine s_splitQ_n rfl rfl (fun h => ?_) (fun h => ?_)) <;> (try (first | contradiction | (exfalso; omega)))) | refine s_splitQ_nb rfl rfl (fun h => ?_) (fun h => ?_) | refine s_splitQ rfl rfl (fun h => ?_) (fun h => ?_))) | refine lQ_then ?_ | refine lQ_ends ?_ | (refine kE ?_; (first | refine e_then_r ?_ | refine e_block_r ?_ | refine e_then_n ?_ | refine e_then_x ?_ | refine e_block_n ?_ | refine e_block_x ?_ | refine e_block_y rfl ?_)) | refine l_ends ?_)
  · exact e_round (j + 1) (by omega) ⟨slook_to rfl (vint_to (by push_cast; rfl)), (by repeat' first | exact trivial | refine ⟨rfl, ?_⟩)⟩ (fun w hw => by rw [points_take (by omega)]; exact hw.sub (selO_sub [false, true, true, true] _ _ rfl)) (by omega)
  · refine s_leaveSF rfl rfl rfl fwA (fun w hw => ⟨?_, hw.below⟩)
    show Ending.returned (gval (points (l.take j))) = _
    rw [List.take_of_length_le (by omega)]
set_option maxHeartbeats 4000000 in
theorem c_iregionOf (v : Value) (l : List DRect) (W : World) (hv : RRects W v l) : SYieldsF Tryz.prog 161 #[v] (fun u H => OReg u (canon (points l)) H) W := by
  have hll := hv.len
  have hv' := hv.form
  obtain ⟨_, _, rfl⟩ := hv'
  have h0 : points (l.take 0) = Grid.none := by unfold points; funext y x; rfl
  (first | apply SYields.mk | apply SYieldsF.mk | skip); refine s_enter Tryz.func161 rfl Tryz.ntmps161 rfl ?_
  repeat' (first | exact rfl | (apply kO; (first | exact ov_pure rfl | (apply kOBin; (first | exact aBin)) | (apply kOCall; (first | (apply kCallF; (first | exact (ov_call rfl (fun w hw => c_irectOk (l.getD j DRect.zero) w)) | exact (ov_call rfl (fun w hw => c_gridOf (l.getD j DRect.zero) w)) | exact (ov_call rfl (fun w hw => c_gor (points (l.take j)) (rectG (l.getD j DRect.zero)) w)))) | (apply kCallB; (first | exact aBlt | exact aLenR)))) | (apply kOLoad; (first | exact (ov_ldRZ (fun w hw => RRow.keep hv (hw.cells rfl)) rfl rfl (by omega) rfl) | exact aLdF | exact aLdR)) | exact ov_fieldAddr rfl | (apply kOIdx; (first | exact (ov_idxR (fun w hw => RRow.keep hv (hw.cells rfl)) rfl rfl (by omega)) | exact aIdx)) | exact aRest | exact (ov_buildA0) | exact aNew | exact (ov_field1 (ft := 31) rfl rfl rfl rfl))) | (refine kN ?_; (first | (refine kCall ?_; (first | (refine kWFn 67 ?_; (refine s_callF (fun u H => OReg u (canon (points (l.take j))) H) rfl (fun w hw => c_gregion (points (l.take j)) w) rfl (fun u H hu => ?_); obtain ⟨d', rfl, hu⟩ := hu)) | apply s_step)) | (refine kStore ?_; (first | (refine s_storeS _ rfl rfl gpA rfl (ones_cons (OVs.one (by assumption)) rfl) (by rfl) ?_) | refine s_store1 _ rfl rfl gpA rfl (by rfl) ?_ | refine s_storeS _ rfl rfl gpA rfl rfl (by rfl) ?_ | refine s_storeS _ rfl rfl gpA rfl (ones_img oiA) (by rfl) ?_)) | refine s_boxS rfl rfl (fun b hb => ?_) | refine s_allocS rfl (fun b hb => ?_) | refine s_box1 rfl rfl rfl (fun b hb => ?_) | refine s_alloc1 rfl rfl (fun b hb => ?_) | refine s_buildSlice0 rfl (fun b hb => ?_) | refine s_buildSlice rfl rfl rfl rfl rfl (fun b hb => ?_) | apply s_step)) | (refine kG ?_; (first | refine s_gyes rfl rfl rfl ?_ | refine s_gno rfl rfl rfl rfl rfl ?_ | ((first | refine s_split_d rfl rfl (fun h => ?_) (fun h => ?_) | refine s_split_n rfl rfl (fun h => ?_) (fun h => ?_)) <;> (try (first | contradiction | (exfalso; omega)))) | refine s_split_nb rfl rfl (fun h => ?_) (fun h => ?_) | refine s_split rfl rfl (fun h => ?_) (fun h => ?_))) | (refine kS ?_; (first | refine h_exec rfl ?_ | refine h_take_nil rfl rfl rfl ?_ | refine h_take_pick rfl rfl rfl ?_ | refine h_nil ?_ | refine h_alt ?_ ?_ | apply h_take)) | (refine kBack ?_; (first | refine h_back_last rfl ?_ | refine h_backN rfl subA ?_)) | refine l_then ?_ | (refine kC ?_; (first | (refine kReg 6 ?_; refine c_regionSN (SPlan.take 0 (SPlan.take 1 (SPlan.run 2 (SPlan.run 3 (SPlan.run 4 SPlan.done))))) (some 4) rfl rfl (by decide +kernel) ?_) | (refine kReg 6 ?_; refine c_regionSN (SPlan.take 0 (SPlan.take 1 (SPlan.run 2 (SPlan.run 3 (SPlan.run 4 SPlan.done))))) none rfl rfl (by decide +kernel) ?_) | (refine c_loopV (ι := Nat) (fun j => j ≤ l.length) (fun j => [(9, .int .i64 (j : Int))]) (fun j => [[(_, srow (gl (points (l.take j))) _)], _]) (fun j => l.length - j) 0 (by omega) rfl (fun _ => rfl) ⟨rfl, trivial⟩ (fun w hw => by rw [h0]; exact hw) (fun j hj => ?_)) | refine c_seq ?_ | refine c_regionN rfl ?_ | refine c_ret ?_ | (refine kCond ?_; (first | refine c_cond_t rfl ?_ | refine c_cond_f rfl ?_ | ((first | refine c_cond_d rfl (fun h => ?_) (fun h => ?_) | refine c_cond_n rfl (fun h => ?_) (fun h => ?_)) <;> (try (first | contradiction | (exfalso; omega)))) | refine c_cond_nb rfl (fun h => ?_) (fun h => ?_) | refine c_cond rfl (fun h => ?_) (fun h => ?_))) | refine c_block ?_ | refine c_skip ?_ | refine c_exit ?_ | refine c_regionQN rfl rfl (by decide +kernel) ?_)) | apply s_stepQ | (refine kQG ?_; (first | refine s_gyesQ rfl rfl rfl ?_ | refine s_gnoQ rfl rfl rfl rfl rfl ?_ | ((first | refine s_splitQ_d rfl rfl (fun h => ?_) (fun h => ?_) | refine s_splitQ_n rfl rfl (fun h => ?_) (fun h => ?_)) <;> (try (first | contradiction | (exfalso; omega)))) | refine s_splitQ_nb rfl rfl (fun h => ?_) (fun h => ?_) | refine s_splitQ rfl rfl (fun h => ?_) (fun h => ?_))) | refine lQ_then ?_ | refine lQ_ends ?_ | (refine kE ?_; (first | refine e_then_r ?_ | refine e_block_r ?_ | refine e_then_n ?_ | refine e_then_x ?_ | refine e_block_n ?_ | refine e_block_x ?_ | refine e_block_y rfl ?_)) | refine l_ends ?_)
  · exact e_round (j + 1) (by omega) ⟨slook_to rfl (vint_to (by push_cast; rfl)), (by repeat' first | exact trivial | refine ⟨rfl, ?_⟩)⟩ (fun w hw => by rw [points_take (by omega)]; exact hw.sub (selO_sub [false, true, true] _ _ rfl)) (by omega)
  · exact e_round (j + 1) (by omega) ⟨slook_to rfl (vint_to (by push_cast; rfl)), (by repeat' first | exact trivial | refine ⟨rfl, ?_⟩)⟩ (fun w hw => by rw [points_take_ok (by omega) (by assumption)]; exact hw.sub (selO_sub [false, true, true] _ _ rfl)) (by omega)
  · rw [List.take_of_length_le (by omega)] at hu
    refine s_leaveSF rfl rfl rfl fwA (fun w hw => ⟨_, _, rfl, ⟨_, rfl, hu⟩, hw.toFresh (H := H) gpA⟩)
set_option maxHeartbeats 4000000 in
theorem c_equalRects (u v : Value) (k l : List DRect) (W : World) (hu : RRects W u k) (hv : RRects W v l) : SYields Tryz.prog 160 #[u, v] (.bool (decide (k = l))) W := by
  have hkl := hu.len
  have hll := hv.len
  (first | apply SYields.mk | apply SYieldsF.mk | skip); refine s_enter Tryz.func160 rfl Tryz.ntmps160 rfl ?_
  repeat' (first | exact rfl | (apply kO; (first | exact ov_pure rfl | (apply kOBin; (first | exact aBin)) | (apply kOCall; (first | (apply kCallB; (first | exact aBlt | exact (ov_lenR (fun w hw => RRow.keep hu (hw.cells rfl)) rfl) | exact (ov_lenR (fun w hw => RRow.keep hv (hw.cells rfl)) rfl) | exact aLenR)))) | (apply kOLoad; (first | exact (ov_ldRZ (fun w hw => RRow.keep hu (hw.cells rfl)) rfl rfl (by omega) rfl) | exact (ov_ldRZ (fun w hw => RRow.keep hv (hw.cells rfl)) rfl rfl (by omega) rfl) | exact aLdF | exact aLdR)) | exact ov_fieldAddr rfl | (apply kOIdx; (first | exact (ov_idxR (fun w hw => RRow.keep hu (hw.cells rfl)) rfl rfl (by omega)) | exact (ov_idxR (fun w hw => RRow.keep hv (hw.cells rfl)) rfl rfl (by omega)) | exact aIdx)) | exact aRest | exact (ov_neRect rfl rfl) | exact aNew | exact (ov_field1 (ft := 31) rfl rfl rfl rfl))) | (refine kN ?_; (first | (refine kStore ?_; (first | refine s_store1 _ rfl rfl gpA rfl (by rfl) ?_ | refine s_storeS _ rfl rfl gpA rfl rfl (by rfl) ?_ | refine s_storeS _ rfl rfl gpA rfl (ones_img oiA) (by rfl) ?_)) | refine s_boxS rfl rfl (fun b hb => ?_) | refine s_allocS rfl (fun b hb => ?_) | refine s_box1 rfl rfl rfl (fun b hb => ?_) | refine s_alloc1 rfl rfl (fun b hb => ?_) | refine s_buildSlice0 rfl (fun b hb => ?_) | refine s_buildSlice rfl rfl rfl rfl rfl (fun b hb => ?_) | apply s_step)) | (refine kG ?_; (first | refine s_gyes rfl rfl rfl ?_ | refine s_gno rfl rfl rfl rfl rfl ?_ | ((first | refine s_split_d rfl rfl (fun h => ?_) (fun h => ?_) | refine s_split_n rfl rfl (fun h => ?_) (fun h => ?_)) <;> (try (first | contradiction | (exfalso; omega)))) | refine s_split_nb rfl rfl (fun h => ?_) (fun h => ?_) | refine s_split rfl rfl (fun h => ?_) (fun h => ?_))) | refine l_then ?_ | (refine kC ?_; (first | (refine c_loopV (ι := Nat) (fun j => j ≤ k.length ∧ eqTo k l DRect.zero j) (fun j => [(13, .int .i64 (j : Int))]) (fun _ => _) (fun j => k.length - j) 0 ⟨by omega, eqTo_zero _ _ _⟩ rfl (fun _ => rfl) ⟨rfl, trivial⟩ (fun w hw => hw) (fun j hj => ?_)) | refine c_seq ?_ | refine c_regionN rfl ?_ | refine c_ret ?_ | (refine kCond ?_; (first | refine c_cond_t rfl ?_ | refine c_cond_f rfl ?_ | ((first | refine c_cond_d rfl (fun h => ?_) (fun h => ?_) | refine c_cond_n rfl (fun h => ?_) (fun h => ?_)) <;> (try (first | contradiction | (exfalso; omega)))) | refine c_cond_nb rfl (fun h => ?_) (fun h => ?_) | refine c_cond rfl (fun h => ?_) (fun h => ?_))) | refine c_block ?_ | refine c_skip ?_ | refine c_exit ?_ | refine c_regionQN rfl rfl (by decide +kernel) ?_)) | apply s_stepQ | (refine kQG ?_; (first | refine s_gyesQ rfl rfl rfl ?_ | refine s_gnoQ rfl rfl rfl rfl rfl ?_ | ((first | refine s_splitQ_d rfl rfl (fun h => ?_) (fun h => ?_) | refine s_splitQ_n rfl rfl (fun h => ?_) (fun h => ?_)) <;> (try (first | contradiction | (exfalso; omega)))) | refine s_splitQ_nb rfl rfl (fun h => ?_) (fun h => ?_) | refine s_splitQ rfl rfl (fun h => ?_) (fun h => ?_))) | refine lQ_then ?_ | refine lQ_ends ?_ | (refine kE ?_; (first | refine e_then_r ?_ | refine e_block_r ?_ | refine e_then_n ?_ | refine e_then_x ?_ | refine e_block_n ?_ | refine e_block_x ?_ | refine e_block_y rfl ?_)) | refine l_ends ?_)
  all_goals first
    | exact s_leave1 rfl rfl (fun w hw => ⟨ret_false (ne_of_len (by omega)), hw.below⟩)
    | exact s_leave1 rfl rfl (fun w hw => ⟨ret_false (fun e => by subst e; contradiction), hw.below⟩)
    | exact e_round (j + 1) ⟨by omega, eqTo_next hj.2 (by assumption)⟩ ⟨rfl, (by repeat' first | exact trivial | refine ⟨rfl, ?_⟩)⟩ (fun w hw => hw) (by omega)
    | exact s_leave1 rfl rfl (fun w hw => ⟨ret_true (list_eq_of_getD DRect.zero (by omega) (fun i hi => hj.2 i (by omega))), hw.below⟩)
set_option maxHeartbeats 4000000 in
theorem c_iregionOk (v : Value) (l : List DRect) (W : World) (hv : RRects W v l) : SYields Tryz.prog 78 #[vReg v] (.bool (decide (regionOk l))) W := by
  (first | apply SYields.mk | apply SYieldsF.mk | skip); refine s_enter Tryz.func78 rfl Tryz.ntmps78 rfl ?_
  repeat' (first | exact rfl | (apply kO; (first | exact ov_pure rfl | (apply kOBin; (first | exact aBin)) | (apply kOCall; (first | (apply kCallF; (first | exact (ov_call rfl (fun w hw => c_equalRects _ _ (canon (points l)) l w (ORects.rd (by assumption) (hfA hw)) (RVs.keep hv (hw.cells rfl)))))) | (apply kCallB; (first | exact aBlt | exact aLenR)))) | (apply kOLoad; (first | exact aLdF | exact aLdR)) | exact ov_fieldAddr rfl | (apply kOIdx; (first | exact aIdx)) | exact aRest | exact (ov_field1 (ft := 41) rfl rfl rfl rfl) | exact aNew | exact (ov_field1 (ft := 31) rfl rfl rfl rfl))) | (refine kN ?_; (first | (refine kCall ?_; (first | (refine kWFn 161 ?_; (refine s_callF (fun u H => OReg u (canon (points l)) H) rfl (fun w hw => c_iregionOf v l w (hv.keep (hw.cells rfl))) rfl (fun u H hu => ?_); obtain ⟨d', rfl, hu⟩ := hu)) | apply s_step)) | (refine kStore ?_; (first | refine s_store1 _ rfl rfl gpA rfl (by rfl) ?_ | refine s_storeS _ rfl rfl gpA rfl rfl (by rfl) ?_ | refine s_storeS _ rfl rfl gpA rfl (ones_img oiA) (by rfl) ?_)) | refine s_boxS rfl rfl (fun b hb => ?_) | refine s_allocS rfl (fun b hb => ?_) | refine s_box1 rfl rfl rfl (fun b hb => ?_) | refine s_alloc1 rfl rfl (fun b hb => ?_) | refine s_buildSlice0 rfl (fun b hb => ?_) | refine s_buildSlice rfl rfl rfl rfl rfl (fun b hb => ?_) | apply s_step)) | (refine kG ?_; (first | refine s_gyes rfl rfl rfl ?_ | refine s_gno rfl rfl rfl rfl rfl ?_ | ((first | refine s_split_d rfl rfl (fun h => ?_) (fun h => ?_) | refine s_split_n rfl rfl (fun h => ?_) (fun h => ?_)) <;> (try (first | contradiction | (exfalso; omega)))) | refine s_split_nb rfl rfl (fun h => ?_) (fun h => ?_) | refine s_split rfl rfl (fun h => ?_) (fun h => ?_))) | (refine kS ?_; (first | refine h_exec rfl ?_ | refine h_take_nil rfl rfl rfl ?_ | refine h_take_pick rfl rfl rfl ?_ | refine h_nil ?_ | refine h_alt ?_ ?_ | apply h_take)) | (refine kBack ?_; (first | refine h_back_last rfl ?_ | refine h_backN rfl subA ?_)) | refine l_then ?_ | (refine kC ?_; (first | (refine kReg 1 ?_; refine c_regionSN (SPlan.take 0 (SPlan.take 1 (SPlan.take 4 (SPlan.take 5 (SPlan.run 2 (SPlan.take 3 (SPlan.run 6 (SPlan.take 7 SPlan.done)))))))) none rfl rfl (by decide +kernel) ?_) | refine c_seq ?_ | refine c_regionN rfl ?_ | refine c_ret ?_ | (refine kCond ?_; (first | refine c_cond_t rfl ?_ | refine c_cond_f rfl ?_ | ((first | refine c_cond_d rfl (fun h => ?_) (fun h => ?_) | refine c_cond_n rfl (fun h => ?_) (fun h => ?_)) <;> (try (first | contradiction | (exfalso; omega)))) | refine c_cond_nb rfl (fun h => ?_) (fun h => ?_) | refine c_cond rfl (fun h => ?_) (fun h => ?_))) | refine c_block ?_ | refine c_skip ?_ | refine c_exit ?_ | refine c_regionQN rfl rfl (by decide +kernel) ?_)) | apply s_stepQ | (refine kQG ?_; (first | refine s_gyesQ rfl rfl rfl ?_ | refine s_gnoQ rfl rfl rfl rfl rfl ?_ | ((first | refine s_splitQ_d rfl rfl (fun h => ?_) (fun h => ?_) | refine s_splitQ_n rfl rfl (fun h => ?_) (fun h => ?_)) <;> (try (first | contradiction | (exfalso; omega)))) | refine s_splitQ_nb rfl rfl (fun h => ?_) (fun h => ?_) | refine s_splitQ rfl rfl (fun h => ?_) (fun h => ?_))) | refine lQ_then ?_ | refine lQ_ends ?_ | (refine kE ?_; (first | refine e_then_r ?_ | refine e_block_r ?_ | refine e_then_n ?_ | refine e_then_x ?_ | refine e_block_n ?_ | refine e_block_x ?_ | refine e_block_y rfl ?_)) | refine l_ends ?_)
  all_goals refine s_leave1 rfl rfl (fun w hw => ⟨ret_dec Iff.rfl, hw.below⟩)
set_option maxHeartbeats 4000000 in
theorem c_iareaOf (v : Value) (l : List DRect) (W : World) (hv : RRects W v l) : SYields Tryz.prog 20 #[vReg v] (.int .i64 (areaOf l)) W := by
  have hll := hv.len
  have hv' := hv.form
  obtain ⟨_, _, rfl⟩ := hv'
  by_cases hok : regionOk l
  · have h128 := hok.length
    have hbd := fun j => area_take_bd hok j
    have hab := fun (j : Nat) (hj : j < l.length) => inScreen_area (getD_inScreen hok hj)
    (first | apply SYields.mk | apply SYieldsF.mk | skip); refine s_enter Tryz.func20 rfl Tryz.ntmps20 rfl ?_
    repeat' (first | exact rfl | (apply kO; (first | exact ov_pure rfl | (apply kOBin; (first | exact aBin | exact (ov_mul rfl rfl (by have := hab j (by omega); (try simp only [Int.toNat_natCast]); omega)) | exact (ov_add rfl rfl (by have := hab j (by omega); have := hbd j; (try simp only [Int.toNat_natCast]); omega)))) | (apply kOCall; (first | (apply kCallF; (first | exact (ov_call rfl (fun w hw => c_iregionOk _ l w (hv.keep (hw.cells rfl)))))) | (apply kCallB; (first | exact aBlt | exact aLenR)))) | (apply kOLoad; (first | exact (ov_ldRZ (fun w hw => RRow.keep hv (hw.cells rfl)) rfl rfl (by omega) rfl) | exact aLdF | exact aLdR)) | exact ov_fieldAddr rfl | (apply kOIdx; (first | exact (ov_idxR (fun w hw => RRow.keep hv (hw.cells rfl)) rfl rfl (by omega)) | exact aIdx)) | exact aRest | exact aNew | exact (ov_field1 (ft := 31) rfl rfl rfl rfl))) | (refine kN ?_; (first | (refine kStore ?_; (first | refine s_store1 _ rfl rfl gpA rfl (by rfl) ?_ | refine s_storeS _ rfl rfl gpA rfl rfl (by rfl) ?_ | refine s_storeS _ rfl rfl gpA rfl (ones_img oiA) (by rfl) ?_)) | refine s_boxS rfl rfl (fun b hb => ?_) | refine s_allocS rfl (fun b hb => ?_) | refine s_box1 rfl rfl rfl (fun b hb => ?_) | refine s_alloc1 rfl rfl (fun b hb => ?_) | refine s_buildSlice0 rfl (fun b hb => ?_) | refine s_buildSlice rfl rfl rfl rfl rfl (fun b hb => ?_) | apply s_step)) | (refine kG ?_; (first | refine s_gyes rfl rfl rfl ?_ | refine s_gno rfl rfl rfl rfl rfl ?_ | ((first | refine s_split_d rfl rfl (fun h => ?_) (fun h => ?_) | refine s_split_n rfl rfl (fun h => ?_) (fun h => ?_)) <;> (try (first | contradiction | (exfalso; omega) | (exfalso; exact absurd hok (by assumption))))) | refine s_split_nb rfl rfl (fun h => ?_) (fun h => ?_) | refine s_split rfl rfl (fun h => ?_) (fun h => ?_))) | refine l_then ?_ | (refine kC ?_; (first | (refine c_loopV (ι := Nat) (fun j => j ≤ l.length) (fun j => [(3, .int .i64 (area (l.take j))), (12, .int .i64 (j : Int))]) (fun _ => [_]) (fun j => l.length - j) 0 (by omega) rfl (fun _ => rfl) ⟨rfl, rfl, trivial⟩ (fun w hw => hw) (fun j hj => ?_)) | refine c_seq ?_ | refine c_regionN rfl ?_ | refine c_ret ?_ | (refine kCond ?_; (first | refine c_cond_t rfl ?_ | refine c_cond_f rfl ?_ | ((first | refine c_cond_d rfl (fun h => ?_) (fun h => ?_) | refine c_cond_n rfl (fun h => ?_) (fun h => ?_)) <;> (try (first | contradiction | (exfalso; omega) | (exfalso; exact absurd hok (by assumption))))) | refine c_cond_nb rfl (fun h => ?_) (fun h => ?_) | refine c_cond rfl (fun h => ?_) (fun h => ?_))) | refine c_block ?_ | refine c_skip ?_ | refine c_exit ?_ | refine c_regionQN rfl rfl (by decide +kernel) ?_)) | apply s_stepQ | (refine kQG ?_; (first | refine s_gyesQ rfl rfl rfl ?_ | refine s_gnoQ rfl rfl rfl rfl rfl ?_ | ((first | refine s_splitQ_d rfl rfl (fun h => ?_) (fun h => ?_) | refine s_splitQ_n rfl rfl (fun h => ?_) (fun h => ?_)) <;> (try (first | contradiction | (exfalso; omega) | (exfalso; exact absurd hok (by assumption))))) | refine s_splitQ_nb rfl rfl (fun h => ?_) (fun h => ?_) | refine s_splitQ rfl rfl (fun h => ?_) (fun h => ?_))) | refine lQ_then ?_ | refine lQ_ends ?_ | (refine kE ?_; (first | refine e_then_r ?_ | refine e_block_r ?_ | refine e_then_n ?_ | refine e_then_x ?_ | refine e_block_n ?_ | refine e_block_x ?_ | refine e_block_y rfl ?_)) | refine l_ends ?_)
    all_goals first
      | exact e_round (j + 1) (by omega) ⟨slook_to rfl (vint_to (area_take_succ (by omega)).symm), slook_to rfl (vint_to (by push_cast; rfl)), (by repeat' first | exact trivial | refine ⟨rfl, ?_⟩)⟩ (fun w hw => hw.sub (selO_sub [false, true] _ _ rfl)) (by omega)
      | exact s_leave1 rfl rfl (fun w hw => ⟨ret_int (by unfold areaOf; rw [if_pos hok, List.take_of_length_le (by omega)]), hw.below⟩)
  · (first | apply SYields.mk | apply SYieldsF.mk | skip); refine s_enter Tryz.func20 rfl Tryz.ntmps20 rfl ?_
    repeat' (first | exact rfl | (apply kO; (first | exact ov_pure rfl | (apply kOBin; (first | exact aBin)) | (apply kOCall; (first | (apply kCallF; (first | exact (ov_call rfl (fun w hw => c_iregionOk _ l w (hv.keep (hw.cells rfl)))))) | (apply kCallB; (first | exact aBlt | exact aLenR)))) | (apply kOLoad; (first | exact aLdF | exact aLdR)) | exact ov_fieldAddr rfl | (apply kOIdx; (first | exact aIdx)) | exact aRest | exact aNew | exact (ov_field1 (ft := 31) rfl rfl rfl rfl))) | (refine kN ?_; (first | (refine kStore ?_; (first | refine s_store1 _ rfl rfl gpA rfl (by rfl) ?_ | refine s_storeS _ rfl rfl gpA rfl rfl (by rfl) ?_ | refine s_storeS _ rfl rfl gpA rfl (ones_img oiA) (by rfl) ?_)) | refine s_boxS rfl rfl (fun b hb => ?_) | refine s_allocS rfl (fun b hb => ?_) | refine s_box1 rfl rfl rfl (fun b hb => ?_) | refine s_alloc1 rfl rfl (fun b hb => ?_) | refine s_buildSlice0 rfl (fun b hb => ?_) | refine s_buildSlice rfl rfl rfl rfl rfl (fun b hb => ?_) | apply s_step)) | (refine kG ?_; (first | refine s_gyes rfl rfl rfl ?_ | refine s_gno rfl rfl rfl rfl rfl ?_ | ((first | refine s_split_d rfl rfl (fun h => ?_) (fun h => ?_) | refine s_split_n rfl rfl (fun h => ?_) (fun h => ?_)) <;> (try (first | contradiction | (exfalso; omega) | (exfalso; exact absurd (by assumption) hok)))) | refine s_split_nb rfl rfl (fun h => ?_) (fun h => ?_) | refine s_split rfl rfl (fun h => ?_) (fun h => ?_))) | refine l_then ?_ | (refine kC ?_; (first | refine c_seq ?_ | refine c_regionN rfl ?_ | refine c_ret ?_ | (refine kCond ?_; (first | refine c_cond_t rfl ?_ | refine c_cond_f rfl ?_ | ((first | refine c_cond_d rfl (fun h => ?_) (fun h => ?_) | refine c_cond_n rfl (fun h => ?_) (fun h => ?_)) <;> (try (first | contradiction | (exfalso; omega) | (exfalso; exact absurd (by assumption) hok)))) | refine c_cond_nb rfl (fun h => ?_) (fun h => ?_) | refine c_cond rfl (fun h => ?_) (fun h => ?_))) | refine c_block ?_ | refine c_skip ?_ | refine c_exit ?_ | refine c_regionQN rfl rfl (by decide +kernel) ?_)) | apply s_stepQ | (refine kQG ?_; (first | refine s_gyesQ rfl rfl rfl ?_ | refine s_gnoQ rfl rfl rfl rfl rfl ?_ | ((first | refine s_splitQ_d rfl rfl (fun h => ?_) (fun h => ?_) | refine s_splitQ_n rfl rfl (fun h => ?_) (fun h => ?_)) <;> (try (first | contradiction | (exfalso; omega) | (exfalso; exact absurd (by assumption) hok)))) | refine s_splitQ_nb rfl rfl (fun h => ?_) (fun h => ?_) | refine s_splitQ rfl rfl (fun h => ?_) (fun h => ?_))) | refine lQ_then ?_ | refine lQ_ends ?_ | (refine kE ?_; (first | refine e_then_r ?_ | refine e_block_r ?_ | refine e_then_n ?_ | refine e_then_x ?_ | refine e_block_n ?_ | refine e_block_x ?_ | refine e_block_y rfl ?_)) | refine l_ends ?_)
    all_goals exact s_leave1 rfl rfl (fun w hw => ⟨ret_int (by unfold areaOf; rw [if_neg hok]), hw.below⟩)
end Go.Proofs.YtfmjeakcfmmkfaaGreat
/-
  Contracts: what is covered and what can be seen, by the program.
-/
set_option linter.unusedVariables false
namespace Go.Proofs.YtfmjeakcfmmkfaaGreat
open Go Sx
attribute [local irreducible] Exit.then Exit.inBlock bodyPost OVs OInts canonR rowR points Sx.canon oriented scaled pictureOf rawPicture
theorem drop_getD (l : List DSurf) (q j : Nat) : (l.drop q).getD j default = l.getD (j + q) default := by
  rw [List.getD_eq_getElem?_getD, List.getD_eq_getElem?_getD, List.getElem?_drop, Nat.add_comm]
theorem hide_yes {l : List DSurf} {q j : Nat} (h : j + q < l.length) (ho : isOpaqueS (l.getD (j + q) default)) : (hideG (l.drop q) j).or (rectG (surfRect (l.getD (j + q) default))) = hideG (l.drop q) (j + 1) := by
  have := hideG_yes (l := l.drop q) (m := j) (by rw [List.length_drop]; omega) (by rw [drop_getD]; exact ho)
  rw [drop_getD] at this; exact this
theorem hide_no {l : List DSurf} {q j : Nat} (h : j + q < l.length) (ho : ¬ (isOpaqueS (l.getD (j + q) default) ∧ (l.getD (j + q) default).Visible = true)) : hideG (l.drop q) (j + 1) = hideG (l.drop q) j :=
  hideG_no (by rw [List.length_drop]; omega) (by rw [drop_getD]; exact ho)
set_option maxHeartbeats 4000000 in
theorem c_screenGrid (s : DScene) (v : Value) (W : World) : SYields Tryz.prog 66 #[vScene s v] (gval (scrG s)) W := by
  (first | apply SYields.mk | apply SYieldsF.mk | skip); refine s_enter Tryz.func66 rfl Tryz.ntmps66 rfl ?_
  repeat' (first | exact rfl | (apply kO; (first | exact ov_pure rfl | (apply kOBin; (first | exact aBin)) | (apply kOCall; (first | (apply kCallF; (first | exact (ov_call rfl (fun w hw => c_gridOf (scrR s) w)))) | (apply kCallB; (first | exact aBlt | exact aLenR)))) | (apply kOLoad; (first | exact aLdF | exact aLdR)) | exact ov_fieldAddr rfl | (apply kOIdx; (first | exact aIdx)) | exact aRest | exact aNew | exact (ov_field1 (ft := 31) rfl rfl rfl rfl))) | (refine kN ?_; (first | (refine kStore ?_; (first | refine s_store1 _ rfl rfl gpA rfl (by rfl) ?_ | refine s_storeS _ rfl rfl gpA rfl rfl (by rfl) ?_ | refine s_storeS _ rfl rfl gpA rfl (ones_img oiA) (by rfl) ?_)) | refine s_boxS rfl rfl (fun b hb => ?_) | refine s_allocS rfl (fun b hb => ?_) | refine s_box1 rfl rfl rfl (fun b hb => ?_) | refine s_alloc1 rfl rfl (fun b hb => ?_) | refine s_buildSlice0 rfl (fun b hb => ?_) | refine s_buildSlice rfl rfl rfl rfl rfl (fun b hb => ?_) | apply s_step)) | (refine kG ?_; (first | refine s_gyes rfl rfl rfl ?_ | refine s_gno rfl rfl rfl rfl rfl ?_ | ((first | refine s_split_d rfl rfl (fun h => ?_) (fun h => ?_) | refine s_split_n rfl rfl (fun h => ?_) (fun h => ?_)) <;> (try (first | contradiction | (exfalso; omega)))) | refine s_split_nb rfl rfl (fun h => ?_) (fun h => ?_) | refine s_split rfl rfl (fun h => ?_) (fun h => ?_))) | refine l_then ?_ | (refine kC ?_; (first | refine c_seq ?_ | refine c_regionN rfl ?_ | refine c_ret ?_ | (refine kCond ?_; (first | refine c_cond_t rfl ?_ | refine c_cond_f rfl ?_ | ((first | refine c_cond_d rfl (fun h => ?_) (fun h => ?_) | refine c_cond_n rfl (fun h => ?_) (fun h => ?_)) <;> (try (first | contradiction | (exfalso; omega)))) | refine c_cond_nb rfl (fun h => ?_) (fun h => ?_) | refine c_cond rfl (fun h => ?_) (fun h => ?_))) | refine c_block ?_ | refine c_skip ?_ | refine c_exit ?_ | refine c_regionQN rfl rfl (by decide +kernel) ?_)) | apply s_stepQ | (refine kQG ?_; (first | refine s_gyesQ rfl rfl rfl ?_ | refine s_gnoQ rfl rfl rfl rfl rfl ?_ | ((first | refine s_splitQ_d rfl rfl (fun h => ?_) (fun h => ?_) | refine s_splitQ_n rfl rfl (fun h => ?_) (fun h => ?_)) <;> (try (first | contradiction | (exfalso; omega)))) | refine s_splitQ_nb rfl rfl (fun h => ?_) (fun h => ?_) | refine s_splitQ rfl rfl (fun h => ?_) (fun h => ?_))) | refine lQ_then ?_ | refine lQ_ends ?_ | (refine kE ?_; (first | refine e_then_r ?_ | refine e_block_r ?_ | refine e_then_n ?_ | refine e_then_x ?_ | refine e_block_n ?_ | refine e_block_x ?_ | refine e_block_y rfl ?_)) | refine l_ends ?_)
  all_goals (refine kE ?_; refine s_leaveSF rfl rfl rfl fwA (fun w hw => ?_))
  all_goals exact ⟨rfl, hw.below⟩
set_option maxHeartbeats 4000000 in
theorem c_covered (s : DScene) (v : Value) (k : Int) (W : World) (hk : -1 ≤ k ∧ k ≤ (s.ss.length : Int) - 1) (hlen : s.ss.length ≤ 6) (hv : RS eSurf W v s.ss) : SYields Tryz.prog 105 #[vScene s v, .int .i64 k] (gval (coverG s (k + 1).toNat)) W := by
  have hve := hv
  obtain ⟨ds, hv⟩ := hv
  have hvf := hv.form
  obtain ⟨va, vc, rfl⟩ := hvf
  have hrow := slLow_row (q := (k + 1).toNat) hv.row (by omega) (by decide)
  have h0 : hideG (s.ss.drop (k + 1).toNat) 0 = Grid.none := hideG_zero _
  have hln : (s.ss.length : Int) - (k + 1) = ((s.ss.length - (k + 1).toNat : Nat) : Int) := by omega
  (first | apply SYields.mk | apply SYieldsF.mk | skip); refine s_enter Tryz.func105 rfl Tryz.ntmps105 rfl ?_
  repeat' (first | exact rfl | (apply kO; (first | exact ov_pure rfl | (apply kOBin; (first | exact aBin)) | (apply kOCall; (first | (apply kCallF; (first | exact (ov_call rfl (fun w hw => c_screenGrid s _ w)) | exact (ov_call rfl (fun w hw => c_isurfaceRect (s.ss.getD (j + (k + 1).toNat) default) (ds (j + (k + 1).toNat)) w (RInts.keep (hv.rd _ (by omega)) (hw.cells rfl)))) | exact (ov_call rfl (fun w hw => c_iisOpaque (s.ss.getD (j + (k + 1).toNat) default) (ds (j + (k + 1).toNat)) w (RInts.keep (hv.rd _ (by omega)) (hw.cells rfl)))) | exact (ov_call rfl (fun w hw => c_gridOf (surfRect (s.ss.getD (j + (k + 1).toNat) default)) w)) | exact (ov_call rfl (fun w hw => c_gor (hideG (s.ss.drop (k + 1).toNat) j) (rectG (surfRect (s.ss.getD (j + (k + 1).toNat) default))) w)) | exact (ov_call rfl (fun w hw => c_gand (hideG (s.ss.drop (k + 1).toNat) j) (scrG s) w)))) | (apply kCallB; (first | exact aBlt | exact (ov_lenR (fun w hw => hrow.keep (hw.cells rfl)) rfl) | exact aLenR)))) | (apply kOLoad; (first | exact (ov_ldRZ (fun w hw => hrow.keep (hw.cells rfl)) rfl rfl (by omega) rfl) | exact aLdF | exact aLdR)) | exact ov_fieldAddr rfl | (apply kOIdx; (first | exact (ov_idxR (fun w hw => hrow.keep (hw.cells rfl)) rfl rfl (by omega)) | exact aIdx)) | exact aRest | exact (ov_buildA0) | (apply kSlice; exact (ov_sliceLow (fun w hw => hv.row.keep (hw.cells rfl)) rfl rfl (by omega))) | exact aNew | exact (ov_field1 (ft := 31) rfl rfl rfl rfl))) | (refine kN ?_; (first | (refine kStore ?_; (first | (refine s_storeS _ rfl rfl gpA rfl (eSurf_ones (RInts.one (hv.rd _ (by omega)))) (by rfl) ?_) | refine s_store1 _ rfl rfl gpA rfl (by rfl) ?_ | refine s_storeS _ rfl rfl gpA rfl rfl (by rfl) ?_ | refine s_storeS _ rfl rfl gpA rfl (ones_img oiA) (by rfl) ?_)) | refine s_boxS rfl rfl (fun b hb => ?_) | refine s_allocS rfl (fun b hb => ?_) | refine s_box1 rfl rfl rfl (fun b hb => ?_) | refine s_alloc1 rfl rfl (fun b hb => ?_) | refine s_buildSlice0 rfl (fun b hb => ?_) | refine s_buildSlice rfl rfl rfl rfl rfl (fun b hb => ?_) | apply s_step)) | (refine kG ?_; (first | refine s_gyes rfl rfl rfl ?_ | refine s_gno rfl rfl rfl rfl rfl ?_ | ((first | refine s_split_d rfl rfl (fun h => ?_) (fun h => ?_) | refine s_split_n rfl rfl (fun h => ?_) (fun h => ?_)) <;> (try (first | contradiction | (exfalso; omega)))) | refine s_split_nb rfl rfl (fun h => ?_) (fun h => ?_) | refine s_split rfl rfl (fun h => ?_) (fun h => ?_))) | (refine kS ?_; (first | refine h_exec rfl ?_ | refine h_take_nil rfl rfl rfl ?_ | refine h_take_pick rfl rfl rfl ?_ | refine h_nil ?_ | refine h_alt ?_ ?_ | apply h_take)) | (refine kBack ?_; (first | refine h_back_last rfl ?_ | refine h_backN rfl subA ?_)) | refine l_then ?_ | (refine kC ?_; (first | (refine kReg 6 ?_; refine c_regionSN (SPlan.take 0 (SPlan.take 1 (SPlan.run 2 (SPlan.run 3 (SPlan.run 4 (SPlan.run 5 SPlan.done)))))) (some 5) rfl rfl (by decide +kernel) ?_) | (refine kReg 6 ?_; refine c_regionSN (SPlan.take 0 (SPlan.take 1 (SPlan.run 2 (SPlan.run 3 (SPlan.run 4 (SPlan.run 5 SPlan.done)))))) none rfl rfl (by decide +kernel) ?_) | (refine kReg 8 ?_; refine c_regionSN (SPlan.take 0 (SPlan.take 1 (SPlan.run 2 (SPlan.run 3 (SPlan.run 4 SPlan.done))))) (some 4) rfl rfl (by decide +kernel) ?_) | (refine kReg 8 ?_; refine c_regionSN (SPlan.take 0 (SPlan.take 1 (SPlan.run 2 (SPlan.run 3 (SPlan.run 4 SPlan.done))))) none rfl rfl (by decide +kernel) ?_) | (refine c_loopV (ι := Nat) (fun j => j ≤ s.ss.length - (k + 1).toNat) (fun j => [(15, .int .i64 (j : Int))]) (fun j => [[(_, srow (gl (hideG (s.ss.drop (k + 1).toNat) j)) _)], _, _]) (fun j => s.ss.length - (k + 1).toNat - j) 0 (by omega) rfl (fun _ => rfl) ⟨rfl, trivial⟩ (fun w hw => by rw [h0]; exact hw) (fun j hj => ?_)) | refine c_seq ?_ | refine c_regionN rfl ?_ | refine c_ret ?_ | (refine kCond ?_; (first | refine c_cond_t rfl ?_ | refine c_cond_f rfl ?_ | ((first | refine c_cond_d rfl (fun h => ?_) (fun h => ?_) | refine c_cond_n rfl (fun h => ?_) (fun h => ?_)) <;> (try (first | contradiction | (exfalso; omega)))) | refine c_cond_nb rfl (fun h => ?_) (fun h => ?_) | refine c_cond rfl (fun h => ?_) (fun h => ?_))) | refine c_block ?_ | refine c_skip ?_ | refine c_exit ?_ | refine c_regionQN rfl rfl (by decide +kernel) ?_)) | apply s_stepQ | (refine kQG ?_; (first | refine s_gyesQ rfl rfl rfl ?_ | refine s_gnoQ rfl rfl rfl rfl rfl ?_ | ((first | refine s_splitQ_d rfl rfl (fun h => ?_) (fun h => ?_) | refine s_splitQ_n rfl rfl (fun h => ?_) (fun h => ?_)) <;> (try (first | contradiction | (exfalso; omega)))) | refine s_splitQ_nb rfl rfl (fun h => ?_) (fun h => ?_) | refine s_splitQ rfl rfl (fun h => ?_) (fun h => ?_))) | refine lQ_then ?_ | refine lQ_ends ?_ | (refine kE ?_; (first | refine e_then_r ?_ | refine e_block_r ?_ | refine e_then_n ?_ | refine e_then_x ?_ | refine e_block_n ?_ | refine e_block_x ?_ | refine e_block_y rfl ?_)) | refine l_ends ?_)
  all_goals first
    | exact e_round (j + 1) (by omega) ⟨slook_to rfl (vint_to (by push_cast; rfl)), (by repeat' first | exact trivial | refine ⟨rfl, ?_⟩)⟩ (fun w hw => by rw [← hide_yes (by omega) (by assumption)]; exact hw.sub (selO_sub [false, true, true, true] _ _ rfl)) (by omega)
    | exact e_round (j + 1) (by omega) ⟨slook_to rfl (vint_to (by push_cast; rfl)), (by repeat' first | exact trivial | refine ⟨rfl, ?_⟩)⟩ (fun w hw => by rw [hide_no (by omega) (fun e => by first | exact absurd e.1 (by assumption) | exact absurd e.2 (by assumption) | (have e2 := e.2; rw [show (s.ss.getD (j + (k + 1).toNat) default).Visible = false from by assumption] at e2; exact absurd e2 Bool.false_ne_true))]; exact hw.sub (selO_sub [false, true, true, true] _ _ rfl)) (by omega)
    | (refine s_leaveSF rfl rfl rfl fwA (fun w hw => ⟨?_, hw.below⟩)
       show Ending.returned (gval ((hideG (s.ss.drop (k + 1).toNat) j).and (scrG s))) = _
       rw [← coverG_hide s (k + 1).toNat (m := j) (by rw [List.length_drop]; omega)])
set_option maxHeartbeats 4000000 in
theorem c_seen (s : DScene) (v : Value) (k : Int) (W : World) (hk : 0 ≤ k ∧ k ≤ (s.ss.length : Int) - 1) (hlen : s.ss.length ≤ 6) (hv : RS eSurf W v s.ss) : SYields Tryz.prog 107 #[vScene s v, .int .i64 k] (gval (seenG s k.toNat)) W := by
  have hve := hv
  obtain ⟨ds, hv⟩ := hv
  have hvf := hv.form
  obtain ⟨va, vc, rfl⟩ := hvf
  have hkq : (k + 1).toNat = k.toNat + 1 := by omega
  (first | apply SYields.mk | apply SYieldsF.mk | skip); refine s_enter Tryz.func107 rfl Tryz.ntmps107 rfl ?_
  repeat' (first | exact rfl | (apply kO; (first | exact ov_pure rfl | (apply kOBin; (first | exact aBin)) | (apply kOCall; (first | (apply kCallF; (first | exact (ov_call rfl (fun w hw => c_screenGrid s _ w)) | exact (ov_call rfl (fun w hw => c_covered s _ k w (by omega) hlen (hve.keep (hw.cells rfl)))) | exact (ov_call rfl (fun w hw => c_isurfaceRect (s.ss.getD k.toNat default) (ds k.toNat) w (RInts.keep (hv.rd _ (by omega)) (hw.cells rfl)))) | exact (ov_call rfl (fun w hw => c_gridOf (surfRect (s.ss.getD k.toNat default)) w)) | exact (ov_call rfl (fun w hw => c_gand (rectG (surfRect (s.ss.getD k.toNat default))) (scrG s) w)) | exact (ov_call rfl (fun w hw => c_gwithout ((rectG (surfRect (s.ss.getD k.toNat default))).and (scrG s)) (coverG s (k + 1).toNat) w)))) | (apply kCallB; (first | exact aBlt | exact aLenR)))) | (apply kOLoad; (first | exact aLdF | exact aLdR)) | exact ov_fieldAddr rfl | (apply kOIdx; (first | exact aIdx)) | exact aRest | exact aNew | exact (ov_field1 (ft := 31) rfl rfl rfl rfl))) | (refine kN ?_; (first | (refine kStore ?_; (first | refine s_store1 _ rfl rfl gpA rfl (by rfl) ?_ | refine s_storeS _ rfl rfl gpA rfl rfl (by rfl) ?_ | refine s_storeS _ rfl rfl gpA rfl (ones_img oiA) (by rfl) ?_)) | refine s_boxS rfl rfl (fun b hb => ?_) | refine s_allocS rfl (fun b hb => ?_) | refine s_box1 rfl rfl rfl (fun b hb => ?_) | refine s_alloc1 rfl rfl (fun b hb => ?_) | refine s_buildSlice0 rfl (fun b hb => ?_) | refine s_buildSlice rfl rfl rfl rfl rfl (fun b hb => ?_) | apply s_step)) | (refine kG ?_; (first | refine s_gyes rfl rfl rfl ?_ | refine s_gno rfl rfl rfl rfl rfl ?_ | ((first | refine s_split_d rfl rfl (fun h => ?_) (fun h => ?_) | refine s_split_n rfl rfl (fun h => ?_) (fun h => ?_)) <;> (try (first | contradiction | (exfalso; omega)))) | refine s_split_nb rfl rfl (fun h => ?_) (fun h => ?_) | refine s_split rfl rfl (fun h => ?_) (fun h => ?_))) | (refine kS ?_; (first | refine h_exec rfl ?_ | refine h_take_nil rfl rfl rfl ?_ | refine h_take_pick rfl rfl rfl ?_ | refine h_nil ?_ | refine h_alt ?_ ?_ | apply h_take)) | (refine kBack ?_; (first | refine h_back_last rfl ?_ | refine h_backN rfl subA ?_)) | refine l_then ?_ | (refine kC ?_; (first | (refine kReg 1 ?_; refine c_regionSN (SPlan.take 0 (SPlan.take 1 (SPlan.take 2 (SPlan.take 3 (SPlan.take 4 (SPlan.take 7 (SPlan.take 10 (SPlan.take 11 (SPlan.run 5 (SPlan.run 6 (SPlan.run 8 (SPlan.run 9 (SPlan.run 12 (SPlan.run 13 (SPlan.run 14 SPlan.done))))))))))))))) (some 14) rfl rfl (by decide +kernel) ?_) | (refine kReg 1 ?_; refine c_regionSN (SPlan.take 0 (SPlan.take 1 (SPlan.take 2 (SPlan.take 3 (SPlan.take 4 (SPlan.take 7 (SPlan.take 10 (SPlan.take 11 (SPlan.run 5 (SPlan.run 6 (SPlan.run 8 (SPlan.run 9 (SPlan.run 12 (SPlan.run 13 (SPlan.run 14 SPlan.done))))))))))))))) none rfl rfl (by decide +kernel) ?_) | refine c_seq ?_ | refine c_regionN rfl ?_ | refine c_ret ?_ | (refine kCond ?_; (first | refine c_cond_t rfl ?_ | refine c_cond_f rfl ?_ | ((first | refine c_cond_d rfl (fun h => ?_) (fun h => ?_) | refine c_cond_n rfl (fun h => ?_) (fun h => ?_)) <;> (try (first | contradiction | (exfalso; omega)))) | refine c_cond_nb rfl (fun h => ?_) (fun h => ?_) | refine c_cond rfl (fun h => ?_) (fun h => ?_))) | refine c_block ?_ | refine c_skip ?_ | refine c_exit ?_ | refine c_regionQN rfl rfl (by decide +kernel) ?_)) | apply s_stepQ | (refine kQG ?_; (first | refine s_gyesQ rfl rfl rfl ?_ | refine s_gnoQ rfl rfl rfl rfl rfl ?_ | ((first | refine s_splitQ_d rfl rfl (fun h => ?_) (fun h => ?_) | refine s_splitQ_n rfl rfl (fun h => ?_) (fun h => ?_)) <;> (try (first | contradiction | (exfalso; omega)))) | refine s_splitQ_nb rfl rfl (fun h => ?_) (fun h => ?_) | refine s_splitQ rfl rfl (fun h => ?_) (fun h => ?_))) | refine lQ_then ?_ | refine lQ_ends ?_ | (refine kE ?_; (first | refine e_then_r ?_ | refine e_block_r ?_ | refine e_then_n ?_ | refine e_then_x ?_ | refine e_block_n ?_ | refine e_block_x ?_ | refine e_block_y rfl ?_)) | refine l_ends ?_)
  all_goals (refine kE ?_; refine s_leaveSF rfl rfl rfl fwA (fun w hw => ?_))
  all_goals exact ⟨by unfold seenG; rw [← hkq], hw.below⟩
end Go.Proofs.YtfmjeakcfmmkfaaGreat
/-
  The plain functions, continued: damage as the program and as the reference gather it. No program in sight.
-/
set_option linter.unusedVariables false
namespace Sx
def accG (f : Nat → Grid) : Nat → Grid
  | 0 => Grid.none
  | n + 1 => (accG f n).or (f n)
theorem accG_iff {f : Nat → Grid} {y x : Nat} : ∀ {n : Nat}, accG f n y x = true ↔ ∃ i, i < n ∧ f i y x = true
  | 0 => ⟨fun h => (by cases h), fun ⟨i, h, _⟩ => absurd h (by omega)⟩
  | n + 1 => by
    unfold accG Grid.or
    rw [Bool.or_eq_true, accG_iff (n := n)]
    constructor
    · rintro (⟨i, h1, h2⟩ | h)
      · exact ⟨i, by omega, h2⟩
      · exact ⟨n, by omega, h⟩
    · rintro ⟨i, h1, h2⟩
      by_cases e : i = n
      · subst e; exact .inr h2
      · exact .inl ⟨i, by omega, h2⟩
def damA (a b : DScene) (j : Nat) : Grid :=
  if surfaceIndex b.ss (a.ss.getD j default).Id < 0 then rectG (surfRect (a.ss.getD j default))
  else if a.ss.getD j default = b.ss.getD (surfaceIndex b.ss (a.ss.getD j default).Id).toNat default then Grid.none
  else (rectG (surfRect (a.ss.getD j default))).or (rectG (surfRect (b.ss.getD (surfaceIndex b.ss (a.ss.getD j default).Id).toNat default)))
def damC (a b : DScene) (i k : Nat) : Grid :=
  if surfaceIndex a.ss (b.ss.getD i default).Id < surfaceIndex a.ss (b.ss.getD k default).Id then rectG ((surfRect (b.ss.getD i default)).inter (surfRect (b.ss.getD k default))) else Grid.none
def damB (a b : DScene) (i : Nat) : Grid :=
  if surfaceIndex a.ss (b.ss.getD i default).Id < 0 then rectG (surfRect (b.ss.getD i default)) else accG (damC a b i) i
def damAll (a b : DScene) : Grid := (accG (damA a b) a.ss.length).or (accG (damB a b) b.ss.length)
theorem holds_iff (r : DRect) (y x : Nat) : rectG r y x = true ↔ r.has x y := decide_eq_true_iff
theorem inter_rect {r q : DRect} (hr : r.ok) (hq : q.ok) (y x : Nat) : rectG (r.inter q) y x = true ↔ r.has x y ∧ q.has x y := by rw [holds_iff]; exact inter_has hr hq x y
theorem getD_mem {l : List DSurf} {i : Nat} (h : i < l.length) : l.getD i default ∈ l := mem_getD.2 ⟨i, h, rfl⟩
/-- the surface of the other list with the same Id -/
theorem twin {l : List DSurf} {id : Int} (h : ¬ surfaceIndex l id < 0) : (surfaceIndex l id).toNat < l.length ∧ (l.getD (surfaceIndex l id).toNat default).Id = id := by
  rcases surfaceIndex_bd l id with ⟨h1, _⟩ | ⟨j, h1, h2, h3, _⟩
  · omega
  · rw [h1]; exact ⟨by omega, by simpa using h3⟩
theorem damAll_iff {a b : DScene} (ha : a.ok) (hb : b.ok) (y x : Nat) : damAll a b y x = true ↔ damP a b x y := by
  have hsa := ha.2.2.2.2
  have hsb := hb.2.2.2.2
  unfold damAll Grid.or damP
  rw [Bool.or_eq_true, accG_iff, accG_iff]
  constructor
  · rintro (⟨j, hj, h⟩ | ⟨i, hi, h⟩)
    · unfold damA at h
      split at h
      · rename_i h0
        exact .inl ⟨_, getD_mem hj, fun hm => by have := ((index_same hsb _).1 hm).1; omega, (holds_iff _ _ _).1 h⟩
      · rename_i h0
        split at h
        · cases h
        · rename_i h1
          unfold Grid.or at h
          rw [Bool.or_eq_true] at h
          have ht := twin h0
          rcases h with h | h
          · exact .inl ⟨_, getD_mem hj, fun hm => h1 ((index_same hsb _).1 hm).2.symm, (holds_iff _ _ _).1 h⟩
          · refine .inr (.inl ⟨_, getD_mem ht.1, fun hm => h1 ?_, (holds_iff _ _ _).1 h⟩)
            have := ((index_same hsa _).1 hm).2
            rw [ht.2, surfaceIndex_at hsa hj] at this
            simpa using this
    · unfold damB at h
      split at h
      · rename_i h0
        exact .inr (.inl ⟨_, getD_mem hi, fun hm => by have := ((index_same hsa _).1 hm).1; omega, (holds_iff _ _ _).1 h⟩)
      · rename_i h0
        obtain ⟨k, hk, h⟩ := accG_iff.1 h
        unfold damC at h
        split at h
        · rename_i h1
          have h2 := (inter_rect (surfRect_ok _) (surfRect_ok _) y x).1 h
          exact .inr (.inr ⟨i, k, hk, hi, by omega, h1, h2.1, h2.2⟩)
        · cases h
  · rintro (⟨s, h1, h2, h3⟩ | ⟨s, h1, h2, h3⟩ | ⟨i, k, hk, hi, h1, h2, h3, h4⟩)
    · obtain ⟨j, hj, rfl⟩ := mem_getD.1 h1
      refine .inl ⟨j, hj, ?_⟩
      unfold damA
      split
      · exact (holds_iff _ _ _).2 h3
      · rename_i h0
        rw [if_neg (fun e => h2 (by rw [e]; exact getD_mem (twin h0).1))]
        unfold Grid.or
        rw [(holds_iff _ _ _).2 h3, Bool.true_or]
    · obtain ⟨i, hi, rfl⟩ := mem_getD.1 h1
      by_cases h0 : surfaceIndex a.ss (b.ss.getD i default).Id < 0
      · refine .inr ⟨i, hi, ?_⟩
        unfold damB
        rw [if_pos h0]; exact (holds_iff _ _ _).2 h3
      · have ht := twin h0
        refine .inl ⟨_, ht.1, ?_⟩
        unfold damA
        rw [ht.2, surfaceIndex_at hsb hi, if_neg (by omega), Int.toNat_natCast, if_neg (fun e => h2 (by rw [← e]; exact getD_mem ht.1))]
        unfold Grid.or
        rw [(holds_iff (surfRect (b.ss.getD i default)) _ _).2 h3, Bool.or_true]
    · refine .inr ⟨i, hi, ?_⟩
      unfold damB
      rw [if_neg (by omega)]
      refine accG_iff.2 ⟨k, hk, ?_⟩
      unfold damC
      rw [if_pos h2]
      exact (inter_rect (surfRect_ok _) (surfRect_ok _) y x).2 ⟨h3, h4⟩
theorem damAll_eq {a b : DScene} (ha : a.ok) (hb : b.ok) : damAll a b = damG a b := by
  funext y x
  exact Bool.eq_iff_iff.2 ((damAll_iff ha hb y x).trans (damG_iff a b y x).symm)
/-! the reference's list -/
def dlA (a b : DScene) : Nat → List DRect
  | 0 => []
  | j + 1 => dlA a b j ++ (if surfaceIndex b.ss (a.ss.getD j default).Id < 0 ∨ ¬ a.ss.getD j default = b.ss.getD (surfaceIndex b.ss (a.ss.getD j default).Id).toNat default then [surfRect (a.ss.getD j default)] else [])
def dlC (a b : DScene) (i : Nat) : Nat → List DRect
  | 0 => []
  | k + 1 => dlC a b i k ++ (if 0 ≤ surfaceIndex a.ss (b.ss.getD i default).Id ∧ surfaceIndex a.ss (b.ss.getD i default).Id < surfaceIndex a.ss (b.ss.getD k default).Id then [(surfRect (b.ss.getD i default)).inter (surfRect (b.ss.getD k default))] else [])
def dlO (a b : DScene) (i : Nat) : List DRect := if surfaceIndex a.ss (b.ss.getD i default).Id < 0 ∨ ¬ a.ss.getD (surfaceIndex a.ss (b.ss.getD i default).Id).toNat default = b.ss.getD i default then [surfRect (b.ss.getD i default)] else []
def dlB (a b : DScene) : Nat → List DRect
  | 0 => []
  | i + 1 => dlB a b i ++ (dlO a b i ++ dlC a b i i)
theorem dlA_length (a b : DScene) : ∀ j, (dlA a b j).length ≤ j
  | 0 => Nat.le_refl _
  | j + 1 => by have := dlA_length a b j; unfold dlA; rw [List.length_append]; split <;> simp <;> omega
theorem dlC_length (a b : DScene) (i : Nat) : ∀ j, (dlC a b i j).length ≤ j
  | 0 => Nat.le_refl _
  | j + 1 => by have := dlC_length a b i j; unfold dlC; rw [List.length_append]; split <;> simp <;> omega
theorem dlO_length (a b : DScene) (i : Nat) : (dlO a b i).length ≤ 1 := by unfold dlO; split <;> simp
theorem dlB_length (a b : DScene) : ∀ i, i ≤ 6 → (dlB a b i).length ≤ 7 * i
  | 0, _ => Nat.le_refl _
  | i + 1, h => by
    have := dlB_length a b i (by omega)
    have h2 := dlC_length a b i i
    have h3 := dlO_length a b i
    unfold dlB
    rw [List.length_append, List.length_append]; omega
theorem points_if {p : Prop} [Decidable p] (r : DRect) (y x : Nat) : points (if p then [r] else []) y x = true ↔ p ∧ r.has x y := by
  by_cases h : p
  · rw [if_pos h, points_one, holds_iff]; exact ⟨fun e => ⟨h, e⟩, fun e => e.2⟩
  · rw [if_neg h, points_nil]; exact ⟨fun e => (by cases e), fun e => absurd e.1 h⟩
theorem dlA_iff (a b : DScene) (y x : Nat) : ∀ j, points (dlA a b j) y x = true ↔ ∃ i, i < j ∧ (surfaceIndex b.ss (a.ss.getD i default).Id < 0 ∨ ¬ a.ss.getD i default = b.ss.getD (surfaceIndex b.ss (a.ss.getD i default).Id).toNat default) ∧ (surfRect (a.ss.getD i default)).has x y
  | 0 => ⟨fun h => (by cases h), fun ⟨i, h, _⟩ => absurd h (by omega)⟩
  | j + 1 => by
    unfold dlA
    rw [points_append, Bool.or_eq_true, dlA_iff a b y x j, points_if]
    constructor
    · rintro (⟨i, h1, h2⟩ | h)
      · exact ⟨i, by omega, h2⟩
      · exact ⟨j, by omega, h⟩
    · rintro ⟨i, h1, h2⟩
      by_cases e : i = j
      · subst e; exact .inr h2
      · exact .inl ⟨i, by omega, h2⟩
theorem dlC_iff (a b : DScene) (i : Nat) (y x : Nat) : ∀ j, points (dlC a b i j) y x = true ↔ ∃ k, k < j ∧ (0 ≤ surfaceIndex a.ss (b.ss.getD i default).Id ∧ surfaceIndex a.ss (b.ss.getD i default).Id < surfaceIndex a.ss (b.ss.getD k default).Id) ∧ ((surfRect (b.ss.getD i default)).inter (surfRect (b.ss.getD k default))).has x y
  | 0 => ⟨fun h => (by cases h), fun ⟨i, h, _⟩ => absurd h (by omega)⟩
  | j + 1 => by
    unfold dlC
    rw [points_append, Bool.or_eq_true, dlC_iff a b i y x j, points_if]
    constructor
    · rintro (⟨k, h1, h2⟩ | h)
      · exact ⟨k, by omega, h2⟩
      · exact ⟨j, by omega, h⟩
    · rintro ⟨k, h1, h2⟩
      by_cases e : k = j
      · subst e; exact .inr h2
      · exact .inl ⟨k, by omega, h2⟩
theorem dlB_iff (a b : DScene) (y x : Nat) : ∀ j, points (dlB a b j) y x = true ↔ ∃ i, i < j ∧ (points (dlO a b i) y x = true ∨ points (dlC a b i i) y x = true)
  | 0 => ⟨fun h => (by cases h), fun ⟨i, h, _⟩ => absurd h (by omega)⟩
  | j + 1 => by
    unfold dlB
    rw [points_append, points_append, Bool.or_eq_true, Bool.or_eq_true, dlB_iff a b y x j]
    constructor
    · rintro (⟨i, h1, h2⟩ | h)
      · exact ⟨i, by omega, h2⟩
      · exact ⟨j, by omega, h⟩
    · rintro ⟨i, h1, h2⟩
      by_cases e : i = j
      · subst e; exact .inr h2
      · exact .inl ⟨i, by omega, h2⟩
theorem dl_iff {a b : DScene} (ha : a.ok) (hb : b.ok) (y x : Nat) : points (dlA a b a.ss.length ++ dlB a b b.ss.length) y x = true ↔ damP a b x y := by
  have hsa := ha.2.2.2.2
  have hsb := hb.2.2.2.2
  rw [points_append, Bool.or_eq_true, dlA_iff, dlB_iff]
  unfold damP
  constructor
  · rintro (⟨i, h1, h2, h3⟩ | ⟨i, h1, h2 | h2⟩)
    · refine .inl ⟨_, getD_mem h1, fun hm => ?_, h3⟩
      have := (index_same hsb _).1 hm
      rcases h2 with h2 | h2
      · omega
      · exact h2 this.2.symm
    · have h4 := (points_if _ y x).1 h2
      refine .inr (.inl ⟨_, getD_mem h1, fun hm => ?_, h4.2⟩)
      have := (index_same hsa _).1 hm
      rcases h4.1 with h2 | h2
      · omega
      · exact h2 this.2
    · obtain ⟨k, hk, h3, h4⟩ := (dlC_iff a b i y x i).1 h2
      have h5 := (inter_has (surfRect_ok _) (surfRect_ok _) _ _).1 h4
      exact .inr (.inr ⟨i, k, hk, h1, h3.1, h3.2, h5.1, h5.2⟩)
  · rintro (⟨s, h1, h2, h3⟩ | ⟨s, h1, h2, h3⟩ | ⟨i, k, hk, hi, h1, h2, h3, h4⟩)
    · obtain ⟨j, hj, rfl⟩ := mem_getD.1 h1
      refine .inl ⟨j, hj, ?_, h3⟩
      by_cases h0 : surfaceIndex b.ss (a.ss.getD j default).Id < 0
      · exact .inl h0
      · exact .inr (fun e => h2 (by rw [e]; exact getD_mem (twin h0).1))
    · obtain ⟨i, hi, rfl⟩ := mem_getD.1 h1
      refine .inr ⟨i, hi, .inl ((points_if _ y x).2 ⟨?_, h3⟩)⟩
      by_cases h0 : surfaceIndex a.ss (b.ss.getD i default).Id < 0
      · exact .inl h0
      · exact .inr (fun e => h2 (by rw [← e]; exact getD_mem (twin h0).1))
    · exact .inr ⟨i, hi, .inr ((dlC_iff a b i y x i).2 ⟨k, hk, ⟨h1, h2⟩, (inter_has (surfRect_ok _) (surfRect_ok _) _ _).2 ⟨h3, h4⟩⟩)⟩
/-! a list changed in place -/
def mapFR (f : DRect → DRect) (l : List DRect) (j : Nat) : List DRect := (l.take j).map f ++ l.drop j
theorem mapFR_zero (f : DRect → DRect) (l : List DRect) : mapFR f l 0 = l := by simp [mapFR]
theorem mapFR_all (f : DRect → DRect) (l : List DRect) {j : Nat} (h : l.length ≤ j) : mapFR f l j = l.map f := by simp [mapFR, List.take_of_length_le h, List.drop_of_length_le h]
theorem mapFR_length (f : DRect → DRect) (l : List DRect) (j : Nat) : (mapFR f l j).length = l.length := by simp [mapFR]; omega
theorem mapFR_get (f : DRect → DRect) (l : List DRect) {j : Nat} (h : j < l.length) : (mapFR f l j).getD j DRect.zero = l.getD j DRect.zero := by
  unfold mapFR
  rw [List.getD_eq_getElem?_getD, List.getElem?_append_right (by simp; omega), List.getD_eq_getElem?_getD]
  congr 1
  rw [List.getElem?_drop]
  congr 1
  simp; omega
theorem mapFR_set (f : DRect → DRect) (l : List DRect) {j : Nat} (h : j < l.length) : (mapFR f l j).set j (f (l.getD j DRect.zero)) = mapFR f l (j + 1) := by
  have e : l.drop j = l.getD j DRect.zero :: l.drop (j + 1) := by
    rw [List.drop_eq_getElem_cons h, List.getD_eq_getElem?_getD, List.getElem?_eq_getElem h]; rfl
  unfold mapFR
  rw [List.set_append_right _ _ (by simp; omega), e]
  have h2 : j - ((l.take j).map f).length = 0 := by simp; omega
  rw [h2, List.set_cons_zero, List.take_add_one, List.getElem?_eq_getElem h, List.map_append]
  simp [List.getD_eq_getElem?_getD, List.getElem?_eq_getElem h]
theorem points_map_inter {q : DRect} (hq : q.ok) : ∀ l : List DRect, points (l.map (·.inter q)) = (points l).and (rectG q)
  | [] => by funext y x; rfl
  | r :: l => by
    funext y x
    rw [List.map_cons, points_cons, points_map_inter hq l, inter_holds hq]
    unfold Grid.and
    rw [points_cons, Bool.and_or_distrib_right]; rfl
theorem dl_damage {a b : DScene} (ha : a.ok) (hb : b.ok) : canon (points ((dlA a b a.ss.length ++ dlB a b b.ss.length).map (·.inter (scrR b)))) = canon ((damG a b).and (scrG b)) := by
  rw [points_map_inter (scrR_ok hb)]
  have : points (dlA a b a.ss.length ++ dlB a b b.ss.length) = damG a b := by
    funext y x
    exact Bool.eq_iff_iff.2 ((dl_iff ha hb y x).trans (damG_iff a b y x).symm)
  rw [this]; rfl
end Sx
/-
  The plain functions, continued: how many points are painted. No program in sight.
-/
set_option linter.unusedVariables false
namespace Sx
theorem cnt_add {f : Nat → Bool} {x : Nat} (hf : f x = false) : ∀ n, x < n → cnt (fun i => f i || decide (i = x)) n = cnt f n + 1
  | 0, h => by omega
  | n + 1, h => by
    simp only [cnt]
    by_cases e : x = n
    · subst e
      have h1 : cnt (fun i => f i || decide (i = x)) x = cnt f x := cnt_congr x (fun i hi => by simp [show ¬ i = x by omega])
      have h2 : (if (f x || decide (x = x)) = true then 1 else 0) = (1 : Nat) := by simp
      have h3 : (if f x = true then 1 else 0) = (0 : Nat) := by simp [hf]
      show cnt (fun i => f i || decide (i = x)) x + (if (f x || decide (x = x)) = true then 1 else 0) = _
      rw [h1, h2, h3]
    · rw [cnt_add hf n (by omega)]
      have h2 : (if (f n || decide (n = x)) = true then 1 else 0) = (if f n = true then 1 else 0 : Nat) := by simp [show ¬ n = x by omega]
      show cnt f n + 1 + (if (f n || decide (n = x)) = true then 1 else 0) = _
      rw [h2]; omega
theorem sumN_add {f g : Nat → Nat} {y : Nat} (he : g y = f y + 1) (ho : ∀ i, i ≠ y → g i = f i) : ∀ n, y < n → sumN g n = sumN f n + 1
  | 0, h => by omega
  | n + 1, h => by
    simp only [sumN]
    by_cases e : y = n
    · subst e
      rw [sumN_congr y (fun i hi => ho i (by omega)), he]; omega
    · rw [sumN_add he ho n (by omega), ho n (fun hh => e hh.symm)]; omega
theorem card_add {g h : Grid} {y x : Nat} (hy : y < 16) (hx : x < 16) (hg : g y x = false) (e : h.eqv (fun b a => g b a || decide (b = y ∧ a = x))) : card h = card g + 1 := by
  rw [card_congr e]
  unfold card
  refine sumN_add (y := y) ?_ (fun i hi => ?_) 16 hy
  · have : cnt (fun a => g y a || decide (y = y ∧ a = x)) 16 = cnt (fun a => g y a || decide (a = x)) 16 := cnt_congr 16 (fun a _ => by simp)
    rw [this]; exact cnt_add hg 16 hx
  · exact cnt_congr 16 (fun a _ => by simp [hi])
theorem card_none {g : Grid} (e : g.eqv Grid.none) : card g = 0 := by rw [card_congr e]; decide
/-- the points of g that the first k pixels of the picture reach -/
def hitG (s : DSurf) (g : Grid) (k : Nat) : Grid := fun y x => g y x && decide (hitTo s k x y)
theorem hitN_card {s : DSurf} (hs : s.ok) {g : Grid} {w h : Int} (hw : w ≤ 16) (hh : h ≤ 16) (hg : ∀ y x, y < 16 → x < 16 → g y x = true → (x : Int) < w ∧ (y : Int) < h) :
    ∀ k, k ≤ ((surfSize s).1 * (surfSize s).2).toNat → hitN s g w h k = card (hitG s g k)
  | 0, _ => by
    rw [card_none (g := hitG s g 0) (fun y x _ _ => by
      unfold hitG
      rw [decide_eq_false (hitTo_zero hs x y), Bool.and_false]; rfl)]
    rfl
  | k + 1, hk => by
    have ih := hitN_card hs hw hh hg k (by omega)
    have hsucc := fun (y x : Nat) => hitTo_succ hs (k := k) (by omega) (x : Int) (y : Int)
    unfold hitN
    rw [ih]
    by_cases e : ((0 ≤ kx s k ∧ kx s k ≤ w - 1) ∧ (0 ≤ ky s k ∧ ky s k ≤ h - 1)) ∧ inG g (kx s k) (ky s k) = true
    · rw [if_pos e]
      have hx := Int.toNat_of_nonneg e.1.1.1
      have hy := Int.toNat_of_nonneg e.1.2.1
      have hnot : ¬ hitTo s k ((kx s k).toNat : Int) ((ky s k).toNat : Int) := by rw [hx, hy]; exact hitTo_not hs
      rw [card_add (g := hitG s g k) (h := hitG s g (k + 1)) (y := (ky s k).toNat) (x := (kx s k).toNat) (by omega) (by omega)]
      · push_cast; rfl
      · unfold hitG; rw [decide_eq_false hnot, Bool.and_false]
      · intro b a hb ha
        unfold hitG
        by_cases e2 : b = (ky s k).toNat ∧ a = (kx s k).toNat
        · obtain ⟨rfl, rfl⟩ := e2
          have h1 : hitTo s (k + 1) ((kx s k).toNat : Int) ((ky s k).toNat : Int) := (hsucc _ _).2 (.inr ⟨hx, hy⟩)
          have h2 : g (ky s k).toNat (kx s k).toNat = true := e.2
          rw [h2, decide_eq_true h1]; simp
        · have h1 : decide (hitTo s (k + 1) (a : Int) (b : Int)) = decide (hitTo s k (a : Int) (b : Int)) := decide_eq_decide.2 ((hsucc b a).trans ⟨fun hh => hh.resolve_right (fun h3 => e2 ⟨by omega, by omega⟩), .inl⟩)
          rw [h1]; show _ = (_ || decide _)
          rw [decide_eq_false e2, Bool.or_false]
    · rw [if_neg e, Int.add_zero]
      congr 1
      refine card_congr (fun b a hb ha => ?_)
      unfold hitG
      by_cases e3 : g b a = true
      · have h1 : decide (hitTo s (k + 1) (a : Int) (b : Int)) = decide (hitTo s k (a : Int) (b : Int)) := decide_eq_decide.2 ((hsucc b a).trans ⟨fun hh => hh.resolve_right (fun h3 => e (by
          have h4 := hg b a hb ha e3
          refine ⟨⟨⟨by omega, by omega⟩, by omega, by omega⟩, ?_⟩
          unfold inG
          rw [← h3.1, ← h3.2, Int.toNat_natCast, Int.toNat_natCast]; exact e3)), .inl⟩)
        rw [h1]
      · have : g b a = false := by simpa using e3
        rw [this, Bool.false_and, Bool.false_and]
/-- all pixels of the picture reach all points of g -/
theorem hitN_all {s : DSurf} (hs : s.ok) {g : Grid} {w h : Int} (hw : w ≤ 16) (hh : h ≤ 16) (hg : ∀ y x, y < 16 → x < 16 → g y x = true → ((x : Int) < w ∧ (y : Int) < h) ∧ (rawRect s).has x y) :
    hitN s g w h ((surfSize s).1 * (surfSize s).2).toNat = card g := by
  rw [hitN_card hs hw hh (fun y x hy hx e => (hg y x hy hx e).1) _ (Nat.le_refl _)]
  congr 1
  refine card_congr (fun y x hy hx => ?_)
  unfold hitG
  by_cases e : g y x = true
  · rw [e, decide_eq_true ((hitTo_all hs x y).2 (hg y x hy hx e).2), Bool.true_and]
  · have : g y x = false := by simpa using e
    rw [this, Bool.false_and]
end Sx
/-
  The plain functions, continued: the pixels of a region copied; only what can be seen is painted. No program in sight.
-/
set_option linter.unusedVariables false
namespace Sx
/-- the part that two images have in common -/
def bothR (to fr : DImg) : DRect := ⟨0, 0, min to.W fr.W, min to.H fr.H⟩
def copyTo (to fr : DImg) (g : Grid) (j i : Nat) : Int → Int → Int := boxTo (bothR to fr) (copyF to fr g) to.at j i
theorem copyTo_zero (to fr : DImg) (g : Grid) (ht : to.ok) : mapTo (copyTo to fr g 0 0) to.W (to.W * to.H).toNat = to.data := by
  unfold copyTo; rw [boxTo_zero]; exact ht.self.symm
theorem copyTo_row {to fr : DImg} {g : Grid} {j i : Nat} (hi : (i : Int) = min to.W fr.W) : copyTo to fr g j i = copyTo to fr g (j + 1) 0 := by
  unfold copyTo; exact boxTo_row (by unfold bothR; dsimp only; omega)
theorem copyTo_yes {to fr : DImg} {g : Grid} (ht : to.ok) (hf : fr.ok) {j i : Nat} (hj : (j : Int) < min to.H fr.H) (hi : (i : Int) < min to.W fr.W) (hg : g j i = true) :
    (mapTo (copyTo to fr g j i) to.W (to.W * to.H).toNat).set ((j : Int) * to.W + i).toNat (fr.data.getD ((j : Int) * fr.W + i).toNat 0) = mapTo (copyTo to fr g j (i + 1)) to.W (to.W * to.H).toNat := by
  rw [mapTo_set _ (w := to.W) (h := to.H) (x := (i : Int)) (y := (j : Int)) (by omega) (by omega)]
  congr 1
  unfold copyTo
  rw [boxTo_next (by unfold bothR; dsimp only; omega)]
  unfold bothR
  dsimp only
  funext x y
  rw [Int.zero_add, Int.zero_add]
  have e : copyF to fr g (i : Int) (j : Int) = fr.data.getD ((j : Int) * fr.W + i).toNat 0 := by
    unfold copyF; rw [if_pos ⟨hg, by omega, by omega⟩]; rfl
  rw [e]
theorem copyTo_no {to fr : DImg} {g : Grid} {j i : Nat} (hi : (i : Int) < min to.W fr.W) (hg : ¬ g j i = true) : copyTo to fr g j (i + 1) = copyTo to fr g j i := by
  unfold copyTo
  rw [boxTo_next (by unfold bothR; dsimp only; omega)]
  funext x y
  split
  · rename_i h
    obtain ⟨rfl, rfl⟩ := h
    rw [boxTo_here]
    unfold bothR
    dsimp only
    rw [Int.zero_add, Int.zero_add]
    unfold copyF
    rw [if_neg (fun e => hg e.1)]
  · rfl
theorem copyTo_all {to fr : DImg} {r : List DRect} (ht : to.ok) (hf : fr.ok) (hr : regionOk r) {j : Nat} (hj : (j : Int) = min to.H fr.H) : (⟨to.W, to.H, mapTo (copyTo to fr (points r) j 0) to.W (to.W * to.H).toNat⟩ : DImg) = copyRegion to fr r := by
  unfold copyRegion
  rw [if_pos ⟨ht, hf, hr⟩]
  unfold fimg
  congr 1
  refine mapTo_congr ht.1.1 (fun x y h1 h2 h3 h4 => ?_)
  unfold copyTo
  rw [boxTo_all (by unfold bothR; dsimp only; exact hj)]
  unfold bothR
  dsimp only
  split
  · rfl
  · unfold copyF
    rw [if_neg (by omega)]
theorem copyTo_pix {to fr : DImg} (ht : to.ok) (hf : fr.ok) (g : Grid) (j i : Nat) (x y : Int) : pixP (copyTo to fr g j i x y) :=
  boxTo_pix (fun x y => by unfold copyF; split
                           · exact hf.at_pix _ _
                           · exact ht.at_pix _ _) (fun x y => ht.at_pix _ _) j i x y
/-! only what can be seen -/
/-- pixels after n surfaces, by whole numbers -/
def pvF (s : DScene) (n : Nat) (x y : Int) : Int := pvTo s n x.toNat y.toNat
theorem pvF_pix {s : DScene} (h : s.ok) {n : Nat} (hn : n ≤ s.ss.length) (x y : Int) : pixP (pvF s n x y) := pvTo_pix h n _ _ hn
theorem pvF_zero (s : DScene) : pvF s 0 = paintTo s 0 := by funext x y; rfl
/-- the area that is painted of surface k -/
def pvN (s : DScene) : Nat → Int
  | 0 => (card (((rectG (scrR s)).without (coverG s 0))) : Int)
  | n + 1 => pvN s n + (card (seenG s n) : Int)
theorem pvN_bd (s : DScene) : ∀ n : Nat, 0 ≤ pvN s n ∧ pvN s n ≤ 256 * (n + 1)
  | 0 => by
    have := sumN_le16 (fun y => cnt (((rectG (scrR s)).without (coverG s 0)) y) 16) (fun y => cnt_le _ 16)
    unfold pvN card; omega
  | n + 1 => by
    have := pvN_bd s n
    have h2 := sumN_le16 (fun y => cnt ((seenG s n) y) 16) (fun y => cnt_le _ 16)
    unfold pvN
    have : card (seenG s n) ≤ 256 := h2
    push_cast; omega
def paintVisible (s : DScene) : DImg := if s.ok then fimg (pvF s s.ss.length) s.W s.H else DImg.zero
def visibleCost (s : DScene) : Int := if s.ok then pvN s s.ss.length else 0
theorem paintVisible_eq {s : DScene} (h : s.ok) : paintVisible s = painted s := by
  unfold paintVisible painted
  rw [if_pos h]
  refine fimg_congr h.1.1 (fun x y h1 h2 h3 h4 => ?_)
  have hs : scrG s y.toNat x.toNat = true := (scrG_iff h _ _).2 ⟨by omega, by omega⟩
  have := pv_all h hs
  unfold pvF
  rw [this, show ((x.toNat : Nat) : Int) = x by omega, show ((y.toNat : Nat) : Int) = y by omega]
theorem seenG_in {s : DScene} (h : s.ok) {k y x : Nat} (hh : seenG s k y x = true) : ((x : Int) < s.W ∧ (y : Int) < s.H) ∧ (surfRect (s.ss.getD k default)).has x y := by
  unfold seenG Grid.without Grid.and at hh
  simp only [Bool.and_eq_true] at hh
  exact ⟨(scrG_iff h y x).1 hh.1.2, (holds_iff _ _ _).1 hh.1.1⟩
theorem seenG_hid {s : DScene} (h : s.ok) {k : Nat} (hv : ¬ (s.ss.getD k default).Visible = true) (y x : Nat) : seenG s k y x = false := by
  cases e : seenG s k y x
  · rfl
  · have := (seenG_in h e).2
    rw [surfRect_hid hv] at this
    exact absurd this (zero_has _ _)
/-- a visible surface, as the program paints it -/
theorem pv_one {s : DScene} (h : s.ok) {k : Nat} (hk : k < s.ss.length) (hv : (s.ss.getD k default).Visible = true) :
    mapTo (oneTo (s.ss.getD k default) (seenG s k) (pvF s k) ((surfSize (s.ss.getD k default)).1 * (surfSize (s.ss.getD k default)).2).toNat) s.W (s.W * s.H).toNat = mapTo (pvF s (k + 1)) s.W (s.W * s.H).toNat :=
  mapTo_congr h.1.1 (fun x y h1 h2 h3 h4 => by
    rw [oneTo_all (getD_ok h hk)]
    show _ = pvTo s (k + 1) x.toNat y.toNat
    unfold pvTo inG
    have ex : ((x.toNat : Nat) : Int) = x := by omega
    have ey : ((y.toNat : Nat) : Int) = y := by omega
    by_cases e : seenG s k y.toNat x.toNat = true
    · have h5 := (seenG_in h e).2
      rw [ex, ey, surfRect_vis (getD_ok h hk) hv] at h5
      rw [if_pos ⟨h5, e⟩, if_pos e, ex, ey]
      show over _ (pvTo s k x.toNat y.toNat) = _
      rfl
    · rw [if_neg (fun hh => e hh.2), if_neg e]; rfl)
theorem pv_hid {s : DScene} (h : s.ok) {k : Nat} (hv : ¬ (s.ss.getD k default).Visible = true) : pvF s (k + 1) = pvF s k := by
  funext x y
  show pvTo s (k + 1) x.toNat y.toNat = _
  unfold pvTo
  rw [seenG_hid h hv]; rfl
theorem pvN_one {s : DScene} (h : s.ok) {k : Nat} (hk : k < s.ss.length) (hv : (s.ss.getD k default).Visible = true) :
    pvN s k + hitN (s.ss.getD k default) (seenG s k) s.W s.H ((surfSize (s.ss.getD k default)).1 * (surfSize (s.ss.getD k default)).2).toNat = pvN s (k + 1) := by
  rw [hitN_all (getD_ok h hk) h.1.2 h.2.1.2 (fun y x hy hx e => by
    have := seenG_in h e
    rw [surfRect_vis (getD_ok h hk) hv] at this
    exact this)]
  rfl
theorem pvN_hid {s : DScene} (h : s.ok) {k : Nat} (hv : ¬ (s.ss.getD k default).Visible = true) : pvN s (k + 1) = pvN s k := by
  show pvN s k + (card (seenG s k) : Int) = _
  rw [card_none (fun y x _ _ => seenG_hid h hv y x)]; simp
/-- one row of the reference's way: after i places of row j -/
def seeTo (s : DScene) (k : Nat) (j i : Nat) : Int → Int → Int := boxTo (scrR s) (fun x y => pvF s (k + 1) x y) (pvF s k) j i
theorem seeTo_zero (s : DScene) (k : Nat) : seeTo s k 0 0 = pvF s k := boxTo_zero _ _ _
theorem seeTo_row {s : DScene} {k j i : Nat} (hi : (i : Int) = s.W) : seeTo s k j i = seeTo s k (j + 1) 0 := boxTo_row (by unfold scrR; dsimp only; omega)
theorem seeTo_pix {s : DScene} (h : s.ok) {k : Nat} (hk : k < s.ss.length) (j i : Nat) (x y : Int) : pixP (seeTo s k j i x y) := boxTo_pix (fun x y => pvF_pix h (by omega) x y) (fun x y => pvF_pix h (by omega) x y) j i x y
theorem see_at {s : DScene} (h : s.ok) {k : Nat} (hk : k < s.ss.length) {j i : Nat} (hg : seenG s k j i = true) :
    ((i : Int) < s.W ∧ (j : Int) < s.H) ∧ (0 ≤ (i : Int) - (surfRect (s.ss.getD k default)).X ∧ (i : Int) - (surfRect (s.ss.getD k default)).X < (pictureOf (s.ss.getD k default)).W) ∧ (0 ≤ (j : Int) - (surfRect (s.ss.getD k default)).Y ∧ (j : Int) - (surfRect (s.ss.getD k default)).Y < (pictureOf (s.ss.getD k default)).H)
    ∧ (surfRect (s.ss.getD k default)).X = (s.ss.getD k default).X ∧ (surfRect (s.ss.getD k default)).Y = (s.ss.getD k default).Y := by
  have h1 := seenG_in h hg
  have hq := getD_ok h hk
  by_cases hv : (s.ss.getD k default).Visible = true
  · have hz := surfSize_pic hq
    have h2 := h1.2
    rw [surfRect_vis hq hv] at h2 ⊢
    have h3 := h2.2
    unfold rawRect at h3 ⊢
    dsimp only at h3 ⊢
    rw [hz.1, hz.2]
    omega
  · have h2 := h1.2
    rw [surfRect_hid hv] at h2; exact absurd h2 (zero_has _ _)
theorem see_yes {s : DScene} (h : s.ok) {k : Nat} (hk : k < s.ss.length) {j i : Nat} (hg : seenG s k j i = true) :
    (mapTo (seeTo s k j i) s.W (s.W * s.H).toNat).set ((j : Int) * s.W + i).toNat (over ((pictureOf (s.ss.getD k default)).data.getD (((j : Int) - (surfRect (s.ss.getD k default)).Y) * (pictureOf (s.ss.getD k default)).W + i - (surfRect (s.ss.getD k default)).X).toNat 0) ((mapTo (seeTo s k j i) s.W (s.W * s.H).toNat).getD ((j : Int) * s.W + i).toNat 0))
    = mapTo (seeTo s k j (i + 1)) s.W (s.W * s.H).toNat := by
  have ha := see_at h hk hg
  rw [mapTo_at _ (w := s.W) (h := s.H) (x := (i : Int)) (y := (j : Int)) (by omega) (by omega), mapTo_set _ (w := s.W) (h := s.H) (x := (i : Int)) (y := (j : Int)) (by omega) (by omega)]
  congr 1
  have e0 : seeTo s k j i (i : Int) (j : Int) = pvF s k i j := by
    have := boxTo_here (scrR s) (fun x y => pvF s (k + 1) x y) (pvF s k) j i
    unfold scrR at this
    dsimp only at this
    rw [Int.zero_add, Int.zero_add] at this
    exact this
  rw [e0]
  unfold seeTo
  rw [boxTo_next (by unfold scrR; dsimp only; omega)]
  unfold scrR
  dsimp only
  rw [Int.zero_add, Int.zero_add]
  have e1 : pvF s (k + 1) i j = over ((pictureOf (s.ss.getD k default)).data.getD (((j : Int) - (surfRect (s.ss.getD k default)).Y) * (pictureOf (s.ss.getD k default)).W + i - (surfRect (s.ss.getD k default)).X).toNat 0) (pvF s k i j) := by
    show pvTo s (k + 1) i j = _
    unfold pvTo
    rw [if_pos hg]
    show over (pixOf _ _ _) (pvF s k i j) = _
    congr 1
    rw [ha.2.2.2.1, ha.2.2.2.2, show ((j : Int) - (s.ss.getD k default).Y) * (pictureOf (s.ss.getD k default)).W + i - (s.ss.getD k default).X = ((j : Int) - (s.ss.getD k default).Y) * (pictureOf (s.ss.getD k default)).W + (i - (s.ss.getD k default).X) by omega]
    rfl
  rw [e1]
theorem see_no {s : DScene} {k j i : Nat} (hi : (i : Int) < s.W) (hg : ¬ seenG s k j i = true) : seeTo s k j (i + 1) = seeTo s k j i := by
  unfold seeTo
  rw [boxTo_next (by unfold scrR; dsimp only; omega)]
  funext x y
  split
  · rename_i h
    obtain ⟨rfl, rfl⟩ := h
    rw [boxTo_here]
    unfold scrR
    dsimp only
    rw [Int.zero_add, Int.zero_add]
    show pvTo s (k + 1) i j = pvTo s k i j
    conv => lhs; unfold pvTo
    rw [if_neg hg]
  · rfl
theorem seeTo_all {s : DScene} (h : s.ok) {k j : Nat} (hj : (j : Int) = s.H) : mapTo (seeTo s k j 0) s.W (s.W * s.H).toNat = mapTo (pvF s (k + 1)) s.W (s.W * s.H).toNat :=
  mapTo_congr h.1.1 (fun x y h1 h2 h3 h4 => by
    unfold seeTo
    rw [boxTo_all (by unfold scrR; exact hj)]
    unfold scrR
    dsimp only
    rw [if_pos (by omega)])
theorem areaOf_canon (g : Grid) : areaOf (canon g) = card g := by unfold areaOf; rw [if_pos (regionOk_canon g), area_canon]
theorem back_area {s : DScene} (h : s.ok) : areaOf (withoutOf (canon (points [scrR s])) (coverOf s (-1))) = pvN s 0 := by
  unfold withoutOf
  rw [if_pos ⟨regionOk_canon _, coverOf_ok s _⟩, areaOf_canon]
  unfold pvN
  refine congrArg (fun n : Nat => (n : Int)) (card_congr (fun y x hy hx => ?_))
  unfold Grid.without
  rw [points_canon _ y x hy hx, points_one]
  unfold coverOf
  rw [if_pos ⟨h, by omega⟩, points_canon _ y x hy hx]; rfl
theorem seen_area {s : DScene} (h : s.ok) {k : Nat} (hk : k < s.ss.length) : areaOf (visibleOf s k) = (card (seenG s k) : Int) := by
  unfold visibleOf
  rw [if_pos ⟨h, by omega⟩, areaOf_canon]; rfl
theorem seen_points {s : DScene} (h : s.ok) {k : Nat} (hk : k < s.ss.length) : (points (visibleOf s k)).eqv (seenG s k) := fun y x hy hx => by
  unfold visibleOf
  rw [if_pos ⟨h, by omega⟩, points_canon _ y x hy hx]; rfl
end Sx
/-
  A result that is an image and a number.
-/
set_option linter.unusedVariables false
namespace Go.Proofs.YtfmjeakcfmmkfaaGreat
open Go Sx
/-- an image and a number -/
def OImgN (u : Value) (i : DImg) (n : Int) (H : SPiece) : Prop := ∃ d, u = .tuple #[vImg i d, .int .i64 n] ∧ OInts 3 d i.data H
theorem _root_.Sx.SRes.cellG {P : Program} {E : SEnv} {L : SHeap} {t : Tmp} {T : TypeId} {b : Nat} {l : List Value} {td : TypeDesc} {z : Value} {k by_ : Nat} {r : List ResultVar} {vs : List Value} [hu : SUnd P T td] [hi : SInf P T z k by_]
    (ht : slook E t = some (.pointer (some ⟨b, 0, none⟩))) (hd : sisRow td = true) (hf : FindW L b k l) (h : SRes P E L r vs) : SRes P E L (.cell t T :: r) (.agg l.toArray :: vs) := by
  obtain ⟨⟨U, h1⟩, h2⟩ := hf
  exact .cell ht hd h1 h2 h
/-! ### plain: the loads -/
end Go.Proofs.YtfmjeakcfmmkfaaGreat
/-
  Contracts: painting only what can be seen, by the program.
-/
set_option linter.unusedVariables false
namespace Go.Proofs.YtfmjeakcfmmkfaaGreat
open Go Sx
attribute [local irreducible] Exit.then Exit.inBlock bodyPost OVs OInts canonR rowR points Sx.canon mapTo pvF seenG coverG
theorem apart_newN {s w : World} {L : SHeap} {i : Nat} {H : SPiece} (hw : SSt [] s L w) (hL : getL L i = some H) {v : Value} {l : List Int} (h : RInts s v l) (hp : 0 < l.length) : Apart H.keys v := apart_new hw hL h hp
set_option maxHeartbeats 4000000 in
theorem c_ipaintVisible (s : DScene) (v : Value) (W : World) (hv : RS eSurf W v s.ss) : SYieldsF Tryz.prog 35 #[vScene s v] (fun u H => OImgN u (paintVisible s) (visibleCost s) H) W := by
  have hve := hv
  obtain ⟨ds, hv⟩ := hv
  have hvf := hv.form
  obtain ⟨va, vc, rfl⟩ := hvf
  by_cases hok : s.ok
  · have hW := hok.1
    have hH := hok.2.1
    have hlen := hok.2.2.2.1
    have hpos := fun (k : Nat) (hk : k < s.ss.length) => ((getD_ok hok hk).2.2.2.2.2.2.len).1
    have hbd := pvN_bd s
    have hz : areaOf (canon ((rectG ⟨0, 0, s.W, s.H⟩).without (coverG s 0))) = pvN s 0 := by rw [areaOf_canon]; rfl
    have hp : paintVisible s = ⟨s.W, s.H, mapTo (pvF s s.ss.length) s.W (s.W * s.H).toNat⟩ := by unfold paintVisible; rw [if_pos hok]; rfl
    have hc : visibleCost s = pvN s s.ss.length := by unfold visibleCost; rw [if_pos hok]
    rw [hp, hc]
    (first | apply SYields.mk | apply SYieldsF.mk | skip); refine s_enter Tryz.func35 rfl Tryz.ntmps35 rfl ?_
    repeat' (first | exact rfl | (apply kO; (first | exact ov_pure rfl | (apply kOBin; (first | exact aBin | exact (ov_add rfl rfl (by have := hbd j.1; have := hbd (j.1 + 1); rw [pvN_one hok (k := j.1) (by omega) (by assumption)]; omega)))) | (apply kOCall; (first | (apply kCallF; (first | exact (ov_call rfl (fun w hw => c_isceneOk _ _ w (hve.keep (hw.cells rfl)))) | exact (ov_call rfl (fun w hw => c_imageRect _ _ _ w)) | exact (ov_call rfl (fun w hw => c_gridOf _ w)) | exact (ov_call rfl (fun w hw => c_covered s _ (-1) w (by omega) hlen (hve.keep (hw.cells rfl)))) | exact (ov_call rfl (fun w hw => c_gwithout _ _ w)) | exact (ov_call rfl (fun w hw => c_iareaOf _ _ w (ORects.rd (by assumption) (hfA hw)))) | exact (ov_call rfl (fun w hw => c_seen s _ (j.1 : Int) w (by omega) hlen (hve.keep (hw.cells rfl)))))) | (apply kCallB; (first | exact aBlt | exact aLenR)))) | (apply kOLoad; (first | exact (ov_ldRZ (fun w hw => hv.row.keep (hw.cells rfl)) rfl rfl (by omega) rfl) | exact aLdF | exact aLdR)) | exact ov_fieldAddr rfl | (apply kOIdx; (first | exact (ov_idxR (fun w hw => hv.row.keep (hw.cells rfl)) rfl rfl (by omega)) | exact aIdx)) | exact aRest | exact aNew | exact (ov_field1 (ft := 31) rfl rfl rfl rfl))) | (refine kN ?_; (first | (refine kCall ?_; (first | (refine kWFn 67 ?_; (refine s_callF (fun u H => OReg u (canon ((rectG ⟨0, 0, s.W, s.H⟩).without (coverG s 0))) H) rfl (fun w hw => c_gregion ((rectG ⟨0, 0, s.W, s.H⟩).without (coverG s 0)) w) rfl (fun u H hq => ?_); obtain ⟨d2, rfl, hq⟩ := hq)) | (refine kWFn 63 ?_; (refine s_callF (fun u H => OImg u ⟨s.W, s.H, mapTo (pvF s 0) s.W (s.W * s.H).toNat⟩ H) rfl (fun w hw => (by rw [pvF_zero, newPaint s]; exact c_inewImage s.W s.H s.Back w hW hH hok.back)) rfl (fun u H hu => ?_); obtain ⟨d', rfl, hu⟩ := hu; have f1 := hu.form; obtain ⟨_, _, rfl⟩ := f1)) | (refine kWFn 106 ?_; (refine s_callG _ (H := j.2) (fun u H' F => u = .int .i64 (hitN (s.ss.getD j.1 default) (seenG s j.1) s.W s.H ((surfSize (s.ss.getD j.1 default)).1 * (surfSize (s.ss.getD j.1 default)).2).toNat) ∧ OInts 3 _ (mapTo (oneTo (s.ss.getD j.1 default) (seenG s j.1) (pvF s j.1) ((surfSize (s.ss.getD j.1 default)).1 * (surfSize (s.ss.getD j.1 default)).2).toNat) s.W (s.W * s.H).toNat) H' ∧ F = []) rfl gpA (fun w hw hh hn => c_paintOne s.W s.H (pvF s j.1) _ (s.ss.getD j.1 default) _ (seenG s j.1) j.2 w hW hH (getD_ok hok (by omega)) (fun a c => pvF_pix hok (by omega) a c) hj2 (RInts.keep (hv.rd _ (by omega)) (hw.cells rfl)) (apart_new hw gpA (hv.rd _ (by omega)) (hpos _ (by omega))) hh hn) rfl (fun u H' F hst => ?_); obtain ⟨rfl, hst, rfl⟩ := hst)) | apply s_step)) | (refine kStore ?_; (first | (refine s_storeS _ rfl rfl gpA rfl (eSurf_ones (RInts.one (hv.rd _ (by omega)))) (by rfl) ?_) | refine s_store1 _ rfl rfl gpA rfl (by rfl) ?_ | refine s_storeS _ rfl rfl gpA rfl rfl (by rfl) ?_ | refine s_storeS _ rfl rfl gpA rfl (ones_img oiA) (by rfl) ?_)) | refine s_boxS rfl rfl (fun b hb => ?_) | refine s_allocS rfl (fun b hb => ?_) | refine s_box1 rfl rfl rfl (fun b hb => ?_) | refine s_alloc1 rfl rfl (fun b hb => ?_) | refine s_buildSlice0 rfl (fun b hb => ?_) | refine s_buildSlice rfl rfl rfl rfl rfl (fun b hb => ?_) | apply s_step)) | (refine kG ?_; (first | refine s_gyes rfl rfl rfl ?_ | refine s_gno rfl rfl rfl rfl rfl ?_ | ((first | refine s_split_d rfl rfl (fun h => ?_) (fun h => ?_) | refine s_split_n rfl rfl (fun h => ?_) (fun h => ?_)) <;> (try (first | contradiction | (exfalso; omega) | (exfalso; exact absurd hok (by assumption))))) | refine s_split_nb rfl rfl (fun h => ?_) (fun h => ?_) | refine s_split rfl rfl (fun h => ?_) (fun h => ?_))) | (refine kS ?_; (first | refine h_exec rfl ?_ | refine h_take_nil rfl rfl rfl ?_ | refine h_take_pick rfl rfl rfl ?_ | refine h_nil ?_ | refine h_alt ?_ ?_ | apply h_take)) | (refine kBack ?_; (first | refine h_back_last rfl ?_ | refine h_backN rfl subA ?_)) | refine l_then ?_ | (refine kC ?_; (first | (refine kReg 4 ?_; refine c_regionSN (SPlan.take 0 (SPlan.take 3 (SPlan.run 1 (SPlan.run 2 (SPlan.run 4 (SPlan.run 5 (SPlan.run 6 (SPlan.run 7 (SPlan.take 8 SPlan.done))))))))) none rfl rfl (by decide +kernel) ?_) | (refine kReg 9 ?_; refine c_regionSubN (SPlan.take 0 (SPlan.take 1 (SPlan.take 2 (SPlan.take 3 (SPlan.take 4 (SPlan.run 5 (SPlan.run 6 (SPlan.take 7 (SPlan.take 8 SPlan.done))))))))) none [true, true, false, true, true, true] rfl rfl rfl (by decide +kernel) ?_) | (refine c_loopV (ι := Nat × SPiece) (fun j => j.1 ≤ s.ss.length ∧ OInts 3 _ (mapTo (pvF s j.1) s.W (s.W * s.H).toNat) j.2) (fun j => [(5, .int .i64 (pvN s j.1)), (30, .int .i64 (j.1 : Int))]) (fun j => [_, j.2, _, _]) (fun j => s.ss.length - j.1) (0, _) ⟨by dsimp only; omega, hu⟩ rfl (fun _ => rfl) ⟨slook_to rfl (vint_to hz), rfl, trivial⟩ (fun w hw => by first | exact hw | exact hw.sub (selO_sub [false, true, true, true, true] _ _ rfl) | exact hw.sub (by repeat' first | exact List.nil_sublist _ | exact List.Sublist.slnil | refine List.Sublist.cons_cons _ ?_ | refine List.Sublist.cons _ ?_)) (fun j hj => ?_); obtain ⟨hj1, hj2⟩ := hj) | refine c_seq ?_ | refine c_regionN rfl ?_ | refine c_ret ?_ | (refine kCond ?_; (first | refine c_cond_t rfl ?_ | refine c_cond_f rfl ?_ | ((first | refine c_cond_d rfl (fun h => ?_) (fun h => ?_) | refine c_cond_n rfl (fun h => ?_) (fun h => ?_)) <;> (try (first | contradiction | (exfalso; omega) | (exfalso; exact absurd hok (by assumption))))) | refine c_cond_nb rfl (fun h => ?_) (fun h => ?_) | refine c_cond rfl (fun h => ?_) (fun h => ?_))) | refine c_block ?_ | refine c_skip ?_ | refine c_exit ?_ | refine c_regionQN rfl rfl (by decide +kernel) ?_)) | apply s_stepQ | (refine kQG ?_; (first | refine s_gyesQ rfl rfl rfl ?_ | refine s_gnoQ rfl rfl rfl rfl rfl ?_ | ((first | refine s_splitQ_d rfl rfl (fun h => ?_) (fun h => ?_) | refine s_splitQ_n rfl rfl (fun h => ?_) (fun h => ?_)) <;> (try (first | contradiction | (exfalso; omega) | (exfalso; exact absurd hok (by assumption))))) | refine s_splitQ_nb rfl rfl (fun h => ?_) (fun h => ?_) | refine s_splitQ rfl rfl (fun h => ?_) (fun h => ?_))) | refine lQ_then ?_ | refine lQ_ends ?_ | (refine kE ?_; (first | refine e_then_r ?_ | refine e_block_r ?_ | refine e_then_n ?_ | refine e_then_x ?_ | refine e_block_n ?_ | refine e_block_x ?_ | refine e_block_y rfl ?_)) | refine l_ends ?_)
    · have hv1 : (s.ss.getD j.1 default).Visible = true := by assumption
      rw [pv_one hok (by omega) hv1] at hst
      exact e_round (j.1 + 1, H') ⟨by dsimp only; omega, hst⟩ ⟨slook_to rfl (vint_to (pvN_one hok (by omega) hv1)), slook_to rfl (vint_to (by push_cast; rfl)), (by repeat' first | exact trivial | refine ⟨rfl, ?_⟩)⟩ (fun w hw => hw.sub (selO_sub [false, false, true, true, true, true] _ _ rfl)) (by dsimp only; omega)
    · have hv0 : (s.ss.getD j.1 default).Visible = false := by assumption
      have hv1 : ¬ (s.ss.getD j.1 default).Visible = true := by rw [hv0]; simp
      exact e_round (j.1 + 1, j.2) ⟨by dsimp only; omega, by dsimp only; rw [pv_hid hok hv1]; exact hj2⟩ ⟨slook_to rfl (vint_to (pvN_hid hok hv1).symm), slook_to rfl (vint_to (by push_cast; rfl)), (by repeat' first | exact trivial | refine ⟨rfl, ?_⟩)⟩ (fun w hw => hw.sub (selO_sub [false, true, true, true, true] _ _ rfl)) (by dsimp only; omega)
    · have e : j.1 = s.ss.length := by omega
      have e2 : pvN s j.1 = pvN s s.ss.length := by rw [e]
      rw [e] at hj2
      exact s_leaveN rfl rfl (SRes.cellG rfl rfl fwA (.tmp rfl .nil)) (fun w hw => ⟨_, _, rfl, ⟨_, by rw [← e2], hj2⟩, hw.toFresh (H := j.2) gpA⟩) .ret (.inl rfl)
  · have hp : paintVisible s = DImg.zero := by unfold paintVisible; rw [if_neg hok]
    have hc : visibleCost s = 0 := by unfold visibleCost; rw [if_neg hok]
    rw [hp, hc]
    (first | apply SYields.mk | apply SYieldsF.mk | skip); refine s_enter Tryz.func35 rfl Tryz.ntmps35 rfl ?_
    repeat' (first | exact rfl | (apply kO; (first | exact ov_pure rfl | (apply kOBin; (first | exact aBin)) | (apply kOCall; (first | (apply kCallF; (first | exact (ov_call rfl (fun w hw => c_isceneOk _ _ w (hve.keep (hw.cells rfl)))))) | (apply kCallB; (first | exact aBlt | exact aLenR)))) | (apply kOLoad; (first | exact aLdF | exact aLdR)) | exact ov_fieldAddr rfl | (apply kOIdx; (first | exact aIdx)) | exact aRest | exact aNew | exact (ov_field1 (ft := 31) rfl rfl rfl rfl))) | (refine kN ?_; (first | (refine kStore ?_; (first | refine s_store1 _ rfl rfl gpA rfl (by rfl) ?_ | refine s_storeS _ rfl rfl gpA rfl rfl (by rfl) ?_ | refine s_storeS _ rfl rfl gpA rfl (ones_img oiA) (by rfl) ?_)) | refine s_boxS rfl rfl (fun b hb => ?_) | refine s_allocS rfl (fun b hb => ?_) | refine s_box1 rfl rfl rfl (fun b hb => ?_) | refine s_alloc1 rfl rfl (fun b hb => ?_) | refine s_buildSlice0 rfl (fun b hb => ?_) | refine s_buildSlice rfl rfl rfl rfl rfl (fun b hb => ?_) | apply s_step)) | (refine kG ?_; (first | refine s_gyes rfl rfl rfl ?_ | refine s_gno rfl rfl rfl rfl rfl ?_ | ((first | refine s_split_d rfl rfl (fun h => ?_) (fun h => ?_) | refine s_split_n rfl rfl (fun h => ?_) (fun h => ?_)) <;> (try (first | contradiction | (exfalso; omega) | (exfalso; exact absurd (by assumption) hok)))) | refine s_split_nb rfl rfl (fun h => ?_) (fun h => ?_) | refine s_split rfl rfl (fun h => ?_) (fun h => ?_))) | refine l_then ?_ | (refine kC ?_; (first | refine c_seq ?_ | refine c_regionN rfl ?_ | refine c_ret ?_ | (refine kCond ?_; (first | refine c_cond_t rfl ?_ | refine c_cond_f rfl ?_ | ((first | refine c_cond_d rfl (fun h => ?_) (fun h => ?_) | refine c_cond_n rfl (fun h => ?_) (fun h => ?_)) <;> (try (first | contradiction | (exfalso; omega) | (exfalso; exact absurd (by assumption) hok)))) | refine c_cond_nb rfl (fun h => ?_) (fun h => ?_) | refine c_cond rfl (fun h => ?_) (fun h => ?_))) | refine c_block ?_ | refine c_skip ?_ | refine c_exit ?_ | refine c_regionQN rfl rfl (by decide +kernel) ?_)) | apply s_stepQ | (refine kQG ?_; (first | refine s_gyesQ rfl rfl rfl ?_ | refine s_gnoQ rfl rfl rfl rfl rfl ?_ | ((first | refine s_splitQ_d rfl rfl (fun h => ?_) (fun h => ?_) | refine s_splitQ_n rfl rfl (fun h => ?_) (fun h => ?_)) <;> (try (first | contradiction | (exfalso; omega) | (exfalso; exact absurd (by assumption) hok)))) | refine s_splitQ_nb rfl rfl (fun h => ?_) (fun h => ?_) | refine s_splitQ rfl rfl (fun h => ?_) (fun h => ?_))) | refine lQ_then ?_ | refine lQ_ends ?_ | (refine kE ?_; (first | refine e_then_r ?_ | refine e_block_r ?_ | refine e_then_n ?_ | refine e_then_x ?_ | refine e_block_n ?_ | refine e_block_x ?_ | refine e_block_y rfl ?_)) | refine l_ends ?_)
    all_goals exact s_leaveN rfl rfl (SRes.cellG rfl rfl fwA (.tmp rfl .nil)) (fun w hw => ⟨_, [], rfl, ⟨_, rfl, OInts.nil _⟩, hw.toFresh0⟩) .ret (.inl rfl)
end Go.Proofs.YtfmjeakcfmmkfaaGreat
/-
  Contract: a whole scene painted by the reference.
-/
set_option linter.unusedVariables false
namespace Go.Proofs.YtfmjeakcfmmkfaaGreat
open Go Sx
attribute [local irreducible] Exit.then Exit.inBlock bodyPost oriented scaled pictureOf rawPicture
set_option maxHeartbeats 4000000 in
theorem c_l11Paint (s : DScene) (v : Value) (W : World) (hok : s.ok) (hv : RS eSurf W v s.ss) : SYieldsF Tryz.prog 75 #[vScene s v] (fun u H => OImg u (painted s) H) W := by
  have hve := hv
  obtain ⟨ds, hv⟩ := hv
  have hl := hv.row.len
  have hW := hok.1
  have hH := hok.2.1
  have hn := hok.2.2.2.1
  have hb0 := hok.back
  unfold pixP at hb0
  have hrd := fun (k : Nat) (hk : k < s.ss.length) => hv.rd k hk
  have hpokk := fun (k : Nat) (hk : k < s.ss.length) q => (pictureOf_ok (getD_ok hok hk)).pix q
  have hpn := fun (k : Nat) (hk : k < s.ss.length) => (pictureOf_ok (getD_ok hok hk)).lenN
  have hwh := side_mul (w := s.W) (h := s.H) ⟨hW.1, hW.2, hH.1, hH.2⟩
  have hpm := fun (k : Nat) (hk : k < s.ss.length) => (⟨(pictureOf_ok (getD_ok hok hk)).1, (pictureOf_ok (getD_ok hok hk)).2.1, side_mul (w := (pictureOf (s.ss.getD k default)).W) (h := (pictureOf (s.ss.getD k default)).H) ⟨(pictureOf_ok (getD_ok hok hk)).1.1, (pictureOf_ok (getD_ok hok hk)).1.2, (pictureOf_ok (getD_ok hok hk)).2.1.1, (pictureOf_ok (getD_ok hok hk)).2.1.2⟩⟩ : _ ∧ _ ∧ _)
  have hbp := fun (k j i : Nat) x y => boxTo_pix (r := ((surfRect (s.ss.getD k default)).inter ⟨0, 0, s.W, s.H⟩)) (f := fun a c => over (pixOf (s.ss.getD k default) a c) (paintTo s k a c)) (old := paintTo s k) (fun a c => over_pixP (pixOf_pix _ a c) (paintTo_pix hok k a c)) (paintTo_pix hok k) j i x y
  have hib := fun (k : Nat) => box_bd (s := s.ss.getD k default) hW hH
  (first | apply SYields.mk | apply SYieldsF.mk | skip); refine s_enter Tryz.func75 rfl Tryz.ntmps75 rfl ?_
  repeat' (first | exact rfl | (apply kO; (first | exact ov_pure rfl | (apply kOBin; (first | exact aBin | exact (ov_add rfl rfl (by have := hib k.1; omega)) | exact (ov_sub rfl rfl (by have := hib k.1; omega)) | exact (ov_mul rfl rfl (by have hbx := box_at (getD_ok hok (k := k.1) (by omega)) hW hH (j := j.1) (i := i.1) (by omega) (by omega); have := mul_bd (a := ((surfRect (s.ss.getD k.1 default)).inter ⟨0, 0, s.W, s.H⟩).Y + (j.1 : Int)) (b := s.W) (A := 16) (B := 16) (by omega) (by omega); omega)) | exact (ov_add rfl rfl (by have hbx := box_at (getD_ok hok (k := k.1) (by omega)) hW hH (j := j.1) (i := i.1) (by omega) (by omega); have hpl := place_lt (w := s.W) (h := s.H) hbx.1 hbx.2.1; omega)) | exact (ov_sub rfl rfl (by have hbx := box_at (getD_ok hok (k := k.1) (by omega)) hW hH (j := j.1) (i := i.1) (by omega) (by omega); omega)) | exact (ov_mul rfl rfl (by have hbx := box_at (getD_ok hok (k := k.1) (by omega)) hW hH (j := j.1) (i := i.1) (by omega) (by omega); have hpmk := hpm k.1 (by omega); have := mul_bd (a := ((surfRect (s.ss.getD k.1 default)).inter ⟨0, 0, s.W, s.H⟩).Y + (j.1 : Int) - (surfRect (s.ss.getD k.1 default)).Y) (b := (pictureOf (s.ss.getD k.1 default)).W) (A := 16) (B := 16) (by omega) (by omega); omega)) | exact (ov_add rfl rfl (by have hbx := box_at (getD_ok hok (k := k.1) (by omega)) hW hH (j := j.1) (i := i.1) (by omega) (by omega); have hpq := place_lt (w := (pictureOf (s.ss.getD k.1 default)).W) (h := (pictureOf (s.ss.getD k.1 default)).H) hbx.2.2.1 hbx.2.2.2.1; have hpmk := hpm k.1 (by omega); omega)) | exact (ov_sub rfl rfl (by have hbx := box_at (getD_ok hok (k := k.1) (by omega)) hW hH (j := j.1) (i := i.1) (by omega) (by omega); have hpq := place_lt (w := (pictureOf (s.ss.getD k.1 default)).W) (h := (pictureOf (s.ss.getD k.1 default)).H) hbx.2.2.1 hbx.2.2.2.1; have hpmk := hpm k.1 (by omega); omega)))) | (apply kOCall; (first | (apply kCallF; (first | exact (ov_call rfl (fun w hw => c_ssurfaceRect (s.ss.getD k.1 default) _ w (RInts.keep (hv.rd _ (by omega)) (hw.cells rfl)))) | exact (ov_call rfl (fun w hw => c_sintersect (surfRect (s.ss.getD k.1 default)) ⟨0, 0, s.W, s.H⟩ w)) | exact (ov_call rfl (fun w hw => c_sover _ _ w (hpokk k.1 (by omega) _) (mapTo_pixD (hbp k.1 j.1 i.1) _ _ _))))) | (apply kCallB; (first | exact aBlt | exact aLenR)))) | (apply kOLoad; (first | exact (ov_ldR0 (fun w hw => (rrA hw)) rfl rfl (by rw [mapTo_length]; have hbx := box_at (getD_ok hok (k := k.1) (by omega)) hW hH (j := j.1) (i := i.1) (by omega) (by omega); have hpl := place_lt (w := s.W) (h := s.H) hbx.1 hbx.2.1; omega) rfl) | exact (ov_ldR0 (fun w hw => (rrA hw)) rfl rfl (by have hbx := box_at (getD_ok hok (k := k.1) (by omega)) hW hH (j := j.1) (i := i.1) (by omega) (by omega); have hpq := place_lt (w := (pictureOf (s.ss.getD k.1 default)).W) (h := (pictureOf (s.ss.getD k.1 default)).H) hbx.2.2.1 hbx.2.2.2.1; have hpmk := hpm k.1 (by omega); have := hpn k.1 (by omega); omega) rfl) | exact aLdF | exact aLdR)) | exact ov_fieldAddr rfl | (apply kOIdx; (first | exact (ov_idxR (fun w hw => (rrA hw)) rfl rfl (by rw [mapTo_length]; have hbx := box_at (getD_ok hok (k := k.1) (by omega)) hW hH (j := j.1) (i := i.1) (by omega) (by omega); have hpl := place_lt (w := s.W) (h := s.H) hbx.1 hbx.2.1; omega)) | exact (ov_idxR (fun w hw => (rrA hw)) rfl rfl (by have hbx := box_at (getD_ok hok (k := k.1) (by omega)) hW hH (j := j.1) (i := i.1) (by omega) (by omega); have hpq := place_lt (w := (pictureOf (s.ss.getD k.1 default)).W) (h := (pictureOf (s.ss.getD k.1 default)).H) hbx.2.2.1 hbx.2.2.2.1; have hpmk := hpm k.1 (by omega); have := hpn k.1 (by omega); omega)) | exact aIdx)) | exact aRest | exact aNew | exact (ov_field1 (ft := 31) rfl rfl rfl rfl))) | (refine kN ?_; (first | (refine kCall ?_; (first | (refine kWFn 92 ?_; (refine s_callF (fun u H => OImg u ⟨s.W, s.H, mapTo (paintTo s 0) s.W (s.W * s.H).toNat⟩ H) rfl (fun w hw => (by have h1 := c_snewImage s.W s.H s.Back w; unfold newImage at h1; rw [if_pos ⟨hW, hH, hok.back⟩] at h1; rw [newPaint s]; exact h1)) rfl (fun u H hu => ?_); obtain ⟨d', rfl, hu⟩ := hu; have f1 := hu.form; obtain ⟨_, _, rfl⟩ := f1)) | (refine kWFn 100 ?_; (refine s_callF (fun u H => OImg u (pictureOf (s.ss.getD k.1 default)) H) rfl (fun w hw => c_spictureOf (s.ss.getD k.1 default) _ w (RInts.keep (hv.rd _ (by omega)) (hw.cells rfl))) rfl (fun u H1 hpic => ?_); obtain ⟨d2, rfl, hpic⟩ := hpic; have f1 := hpic.form; obtain ⟨_, _, rfl⟩ := f1)) | apply s_step)) | (refine kStore ?_; (first | (refine s_setI _ rfl rfl (by assumption) gpA (by rw [mapTo_length]; have hbx := box_at (getD_ok hok (k := k.1) (by omega)) hW hH (j := j.1) (i := i.1) (by omega) (by omega); have hpl := place_lt (w := s.W) (h := s.H) hbx.1 hbx.2.1; omega) (fun H' hst => ?_)) | refine s_store1 _ rfl rfl gpA rfl (by rfl) ?_ | refine s_storeS _ rfl rfl gpA rfl rfl (by rfl) ?_ | refine s_storeS _ rfl rfl gpA rfl (ones_img oiA) (by rfl) ?_)) | refine s_boxS rfl rfl (fun b hb => ?_) | refine s_allocS rfl (fun b hb => ?_) | refine s_box1 rfl rfl rfl (fun b hb => ?_) | refine s_alloc1 rfl rfl (fun b hb => ?_) | refine s_buildSlice0 rfl (fun b hb => ?_) | refine s_buildSlice rfl rfl rfl rfl rfl (fun b hb => ?_) | apply s_step)) | (refine kG ?_; (first | refine s_gyes rfl rfl rfl ?_ | refine s_gno rfl rfl rfl rfl rfl ?_ | ((first | refine s_split_d rfl rfl (fun h => ?_) (fun h => ?_) | refine s_split_n rfl rfl (fun h => ?_) (fun h => ?_)) <;> (try (first | contradiction | (exfalso; omega)))) | refine s_split_nb rfl rfl (fun h => ?_) (fun h => ?_) | refine s_split rfl rfl (fun h => ?_) (fun h => ?_))) | (refine kS ?_; (first | refine h_exec rfl ?_ | refine h_take_nil rfl rfl rfl ?_ | refine h_take_pick rfl rfl rfl ?_ | refine h_nil ?_ | refine h_alt ?_ ?_ | apply h_take)) | (refine kBack ?_; (first | refine h_back_last rfl ?_ | refine h_backN rfl subA ?_)) | refine l_then ?_ | (refine kC ?_; (first | (refine kReg 14 ?_; refine c_regionSN (SPlan.take 0 (SPlan.take 1 (SPlan.take 2 (SPlan.take 3 (SPlan.take 4 (SPlan.take 5 (SPlan.take 6 (SPlan.take 7 (SPlan.take 8 (SPlan.take 9 (SPlan.take 10 (SPlan.take 11 (SPlan.take 12 (SPlan.take 13 (SPlan.take 14 (SPlan.take 15 (SPlan.take 16 (SPlan.take 17 (SPlan.take 18 (SPlan.take 19 (SPlan.take 20 (SPlan.take 21 (SPlan.take 22 (SPlan.take 23 (SPlan.take 24 (SPlan.take 25 (SPlan.take 26 (SPlan.take 27 (SPlan.take 28 (SPlan.take 29 (SPlan.take 30 (SPlan.take 31 (SPlan.take 32 (SPlan.take 33 (SPlan.run 34 (SPlan.take 35 (SPlan.run 36 SPlan.done))))))))))))))))))))))))))))))))))))) (some 36) rfl rfl (by decide +kernel) ?_) | (refine kReg 14 ?_; refine c_regionSN (SPlan.take 0 (SPlan.take 1 (SPlan.take 2 (SPlan.take 3 (SPlan.take 4 (SPlan.take 5 (SPlan.take 6 (SPlan.take 7 (SPlan.take 8 (SPlan.take 9 (SPlan.take 10 (SPlan.take 11 (SPlan.take 12 (SPlan.take 13 (SPlan.take 14 (SPlan.take 15 (SPlan.take 16 (SPlan.take 17 (SPlan.take 18 (SPlan.take 19 (SPlan.take 20 (SPlan.take 21 (SPlan.take 22 (SPlan.take 23 (SPlan.take 24 (SPlan.take 25 (SPlan.take 26 (SPlan.take 27 (SPlan.take 28 (SPlan.take 29 (SPlan.take 30 (SPlan.take 31 (SPlan.take 32 (SPlan.take 33 (SPlan.run 34 (SPlan.take 35 (SPlan.run 36 SPlan.done))))))))))))))))))))))))))))))))))))) none rfl rfl (by decide +kernel) ?_) | (refine c_loopV (ι := Nat × SPiece) (fun k => k.1 ≤ s.ss.length ∧ OInts 3 _ (mapTo (paintTo s k.1) s.W (s.W * s.H).toNat) k.2) (fun k => [(4, .int .i64 (k.1 : Int))]) (fun k => [_, k.2, _, _]) (fun k => s.ss.length - k.1) (0, _) ⟨by dsimp only; omega, hu⟩ rfl (fun _ => rfl) ⟨rfl, trivial⟩ (fun w hw => hw) (fun k hk => ?_); obtain ⟨hk1, hk2⟩ := hk) | (refine c_loopV (ι := Nat × SPiece) (fun j => (j.1 : Int) ≤ max 0 ((surfRect (s.ss.getD k.1 default)).inter ⟨0, 0, s.W, s.H⟩).H ∧ OInts 3 _ (mapTo (boxTo ((surfRect (s.ss.getD k.1 default)).inter ⟨0, 0, s.W, s.H⟩) (fun a c => over (pixOf (s.ss.getD k.1 default) a c) (paintTo s k.1 a c)) (paintTo s k.1) j.1 0) s.W (s.W * s.H).toNat) j.2) (fun j => [(8, .int .i64 (((surfRect (s.ss.getD k.1 default)).inter ⟨0, 0, s.W, s.H⟩).Y + (j.1 : Int)))]) (fun j => [_, _, _, _, _, j.2, _, _]) (fun j => ((surfRect (s.ss.getD k.1 default)).inter ⟨0, 0, s.W, s.H⟩).H.toNat - j.1) (0, _) ⟨by dsimp only; omega, by rw [boxTo_zero]; exact hk2⟩ rfl (fun _ => rfl) ⟨slook_to rfl (vint_to (by simp)), trivial⟩ (fun w hw => hw) (fun j hj => ?_); obtain ⟨hj1, hj2⟩ := hj) | (refine c_loopV (ι := Nat × SPiece) (fun i => (i.1 : Int) ≤ max 0 ((surfRect (s.ss.getD k.1 default)).inter ⟨0, 0, s.W, s.H⟩).W ∧ OInts 3 _ (mapTo (boxTo ((surfRect (s.ss.getD k.1 default)).inter ⟨0, 0, s.W, s.H⟩) (fun a c => over (pixOf (s.ss.getD k.1 default) a c) (paintTo s k.1 a c)) (paintTo s k.1) j.1 i.1) s.W (s.W * s.H).toNat) i.2) (fun i => [(9, .int .i64 (((surfRect (s.ss.getD k.1 default)).inter ⟨0, 0, s.W, s.H⟩).X + (i.1 : Int)))]) (fun i => [_, _, _, _, _, i.2, _, _]) (fun i => ((surfRect (s.ss.getD k.1 default)).inter ⟨0, 0, s.W, s.H⟩).W.toNat - i.1) (0, _) ⟨by dsimp only; omega, hj2⟩ rfl (fun _ => rfl) ⟨slook_to rfl (vint_to (by simp)), trivial⟩ (fun w hw => hw) (fun i hi => ?_); obtain ⟨hi1, hi2⟩ := hi) | refine c_seq ?_ | refine c_regionN rfl ?_ | refine c_ret ?_ | (refine kCond ?_; (first | refine c_cond_t rfl ?_ | refine c_cond_f rfl ?_ | ((first | refine c_cond_d rfl (fun h => ?_) (fun h => ?_) | refine c_cond_n rfl (fun h => ?_) (fun h => ?_)) <;> (try (first | contradiction | (exfalso; omega)))) | refine c_cond_nb rfl (fun h => ?_) (fun h => ?_) | refine c_cond rfl (fun h => ?_) (fun h => ?_))) | refine c_block ?_ | refine c_skip ?_ | refine c_exit ?_ | refine c_regionQN rfl rfl (by decide +kernel) ?_)) | apply s_stepQ | (refine kQG ?_; (first | refine s_gyesQ rfl rfl rfl ?_ | refine s_gnoQ rfl rfl rfl rfl rfl ?_ | ((first | refine s_splitQ_d rfl rfl (fun h => ?_) (fun h => ?_) | refine s_splitQ_n rfl rfl (fun h => ?_) (fun h => ?_)) <;> (try (first | contradiction | (exfalso; omega)))) | refine s_splitQ_nb rfl rfl (fun h => ?_) (fun h => ?_) | refine s_splitQ rfl rfl (fun h => ?_) (fun h => ?_))) | refine lQ_then ?_ | refine lQ_ends ?_ | (refine kE ?_; (first | refine e_then_r ?_ | refine e_block_r ?_ | refine e_then_n ?_ | refine e_then_x ?_ | refine e_block_n ?_ | refine e_block_x ?_ | refine e_block_y rfl ?_)) | refine l_ends ?_)
  · have hbk := hib k.1
    rw [box_step (getD_ok hok (k := k.1) (by omega)) hW hH (paintTo s k.1) (by omega) (by omega)] at hst
    exact e_round (i.1 + 1, H') ⟨by dsimp only; omega, hst⟩ ⟨slook_to rfl (vint_to (by push_cast; omega)), (by repeat' first | exact trivial | refine ⟨rfl, ?_⟩)⟩ (fun w hw => hw) (by dsimp only; omega)
  · have hbk := hib k.1
    rw [boxTo_row (by omega)] at hi2
    exact e_round (j.1 + 1, i.2) ⟨by dsimp only; omega, hi2⟩ ⟨slook_to rfl (vint_to (by push_cast; omega)), (by repeat' first | exact trivial | refine ⟨rfl, ?_⟩)⟩ (fun w hw => hw) (by dsimp only; omega)
  · have hbk := hib k.1
    rw [box_done hok (k := k.1) (by omega) (by omega)] at hj2
    exact e_round (k.1 + 1, j.2) ⟨by dsimp only; omega, hj2⟩ ⟨slook_to rfl (vint_to (by push_cast; rfl)), (by repeat' first | exact trivial | refine ⟨rfl, ?_⟩)⟩ (fun w hw => hw.sub (selO_sub [false, false, false, false, true, true, true, true] _ _ rfl)) (by dsimp only; omega)
  · have e : paintTo s k.1 = paintF s := by funext x y; rw [show k.1 = s.ss.length by omega]; exact paintTo_all s x y
    rw [e] at hk2
    exact s_leaveSF rfl rfl rfl fwA (fun w hw => ⟨_, _, rfl, ⟨_, rfl, hk2⟩, hw.toFresh (H := k.2) gpA⟩)
end Go.Proofs.YtfmjeakcfmmkfaaGreat
