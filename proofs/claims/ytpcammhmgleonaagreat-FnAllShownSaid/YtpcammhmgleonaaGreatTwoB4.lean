/-
  Texts that the law stands on, part 4: K15, L3, L4, L5, L6, W3, M10, M12, M16, M18, M21, M22, KZ, CA, H1, KY, L8, L9, L10, L11, L12, L13, L14, H3, H4, EF, H2, H5, H6, H7, HA.
-/
import Derived.Laws.StructEq
import Derived.Test.YtpcammhmgleonaaGreatTwoB3
set_option linter.unusedVariables false
namespace Go.Proofs.YtpcammhmgleonaaGreat
open Go Sx
attribute [local irreducible] Exit.then Exit.inBlock bodyPost oriented scaled pictureOf rawPicture
theorem c_ifaded (i : DImg) (d : Value) (a : Int) (H : SPiece) (W : World) (hv : OInts 3 d i.data H) (hH : Holds W H) (hn : H.keys.Nodup) :
    SYieldsG Tryz.prog 115 #[vImg i d, .int .i64 a] H (fun u H' F => u = vImg i d ∧ OInts 3 d (fadedImg i a).data H' ∧ F = []) W := by
  have hml := mapFirst_length (fun p => fade p a) i.data
  have hlen := hv.len
  refine SYieldsG.mk (s_enterM Tryz.func115 rfl Tryz.ntmps115 rfl hH hn ?_)
  repeat' (first | exact rfl | (apply kO; (first | exact ov_pure rfl | (apply kOBin; (first | exact aBin)) | (apply kOCall; (first | (apply kCallF; (first | exact (ov_call rfl (fun w hw => c_ifade _ _ w)))) | (apply kCallB; (first | exact aBlt | exact (ov_lenR (fun w hw => (rrA hw)) rfl) | exact aLenR)))) | (apply kOLoad; (first | exact (ov_ldR0 (fun w hw => (rrA hw)) rfl rfl (by rw [hml]; omega) rfl) | exact aLdF | exact aLdR)) | exact ov_fieldAddr rfl | (apply kOIdx; (first | exact (ov_idxR (fun w hw => (rrA hw)) rfl rfl (by rw [hml]; omega)) | exact aIdx)) | exact aRest | exact aNew | exact (ov_field1 (ft := 31) rfl rfl rfl rfl))) | (refine kN ?_; (first | (refine kStore ?_; (first | (refine s_setI _ rfl rfl (by assumption) gpA (by rw [hml]; omega) (fun H' hu => ?_)) | refine s_store1 _ rfl rfl gpA rfl (by rfl) ?_ | refine s_storeS _ rfl rfl gpA rfl rfl (by rfl) ?_ | refine s_storeS _ rfl rfl gpA rfl (ones_img oiA) (by rfl) ?_)) | refine s_boxS rfl rfl (fun b hb => ?_) | refine s_allocS rfl (fun b hb => ?_) | refine s_box1 rfl rfl rfl (fun b hb => ?_) | refine s_alloc1 rfl rfl (fun b hb => ?_) | refine s_buildSlice0 rfl (fun b hb => ?_) | refine s_buildSlice rfl rfl rfl rfl rfl (fun b hb => ?_) | apply s_step)) | (refine kG ?_; (first | refine s_gyes rfl rfl rfl ?_ | refine s_gno rfl rfl rfl rfl rfl ?_ | ((first | refine s_split_d rfl rfl (fun h => ?_) (fun h => ?_) | refine s_split_n rfl rfl (fun h => ?_) (fun h => ?_)) <;> (try (first | contradiction | (exfalso; omega)))) | refine s_split_nb rfl rfl (fun h => ?_) (fun h => ?_) | refine s_split rfl rfl (fun h => ?_) (fun h => ?_))) | (refine kS ?_; (first | refine h_exec rfl ?_ | refine h_take_nil rfl rfl rfl ?_ | refine h_take_pick rfl rfl rfl ?_ | refine h_nil ?_ | refine h_alt ?_ ?_ | apply h_take)) | (refine kBack ?_; (first | refine h_back_last rfl ?_ | refine h_backN rfl subA ?_)) | refine l_then ?_ | (refine kC ?_; (first | (refine kReg 4 ?_; refine c_regionSN (SPlan.take 0 (SPlan.take 1 (SPlan.take 2 (SPlan.take 3 (SPlan.take 4 (SPlan.run 5 (SPlan.take 6 (SPlan.run 7 SPlan.done)))))))) (some 7) rfl rfl (by decide +kernel) ?_) | (refine kReg 4 ?_; refine c_regionSN (SPlan.take 0 (SPlan.take 1 (SPlan.take 2 (SPlan.take 3 (SPlan.take 4 (SPlan.run 5 (SPlan.take 6 (SPlan.run 7 SPlan.done)))))))) none rfl rfl (by decide +kernel) ?_) | (refine c_loopV (ι := Nat × SPiece) (fun j => j.1 ≤ i.data.length ∧ OInts 3 d (mapFirst (fun p => fade p a) i.data j.1) j.2) (fun j => [(10, .int .i64 (j.1 : Int))]) (fun j => [_, _, j.2]) (fun j => i.data.length - j.1) (0, _) ⟨by dsimp only; omega, by rw [mapFirst_zero]; exact hv⟩ rfl (fun _ => rfl) ⟨rfl, trivial⟩ (fun w hw => hw) (fun j hj => ?_); obtain ⟨hj1, hj2⟩ := hj) | refine c_seq ?_ | refine c_regionN rfl ?_ | refine c_ret ?_ | (refine kCond ?_; (first | refine c_cond_t rfl ?_ | refine c_cond_f rfl ?_ | ((first | refine c_cond_d rfl (fun h => ?_) (fun h => ?_) | refine c_cond_n rfl (fun h => ?_) (fun h => ?_)) <;> (try (first | contradiction | (exfalso; omega)))) | refine c_cond_nb rfl (fun h => ?_) (fun h => ?_) | refine c_cond rfl (fun h => ?_) (fun h => ?_))) | refine c_block ?_ | refine c_skip ?_ | refine c_exit ?_ | refine c_regionQN rfl rfl (by decide +kernel) ?_)) | apply s_stepQ | (refine kQG ?_; (first | refine s_gyesQ rfl rfl rfl ?_ | refine s_gnoQ rfl rfl rfl rfl rfl ?_ | ((first | refine s_splitQ_d rfl rfl (fun h => ?_) (fun h => ?_) | refine s_splitQ_n rfl rfl (fun h => ?_) (fun h => ?_)) <;> (try (first | contradiction | (exfalso; omega)))) | refine s_splitQ_nb rfl rfl (fun h => ?_) (fun h => ?_) | refine s_splitQ rfl rfl (fun h => ?_) (fun h => ?_))) | refine lQ_then ?_ | refine lQ_ends ?_ | (refine kE ?_; (first | refine e_then_r ?_ | refine e_block_r ?_ | refine e_then_n ?_ | refine e_then_x ?_ | refine e_block_n ?_ | refine e_block_x ?_ | refine e_block_y rfl ?_)) | refine l_ends ?_)
  · have hs := mapFirst_set (fun p => fade p a) i.data (j := j.1) (by omega)
    rw [Int.toNat_natCast, mapFirst_get _ _ (by omega), hs] at hu
    exact e_round (j.1 + 1, H') ⟨by dsimp only; omega, hu⟩ ⟨rfl, (by repeat' first | exact trivial | refine ⟨rfl, ?_⟩)⟩ (fun w hw => hw) (by dsimp only; omega)
  · rw [mapFirst_all _ _ (by omega)] at hj2
    refine s_leaveSF rfl rfl rfl fwA (fun w hw => ⟨_, _, _, rfl, ⟨rfl, hj2, rfl⟩, (hw.sub (L' := [_]) (by repeat' first | exact List.nil_sublist _ | exact List.Sublist.slnil | refine List.Sublist.cons_cons _ ?_ | refine List.Sublist.cons _ ?_)).lone⟩)
section
variable {n : Nat} {lo : SMut} {s : World} {ops : Array Oper} {Q : Exit → Act → World → Prop} {E : SEnv} {L : SHeap} {dd : Nat} {ty : TypeId} {pos : String} {after : Array Edge} {rest : List Oper}
theorem s_faded (k : Nat) (i : DImg) {d : Value} {a : Int} {H : SPiece} {args : List Operand} {ts : Array TypeId} (ha : svals E args = some [vImg i d, .int .i64 a]) (hv : OInts 3 d i.data H) (hL : getL L k = some H) (hd : Nat.blt dd n = true)
    (c : ∀ H', OInts 3 d (fadedImg i a).data H' → WPL Tryz.prog n lo s ops Q rest ((dd, vImg i d) :: E) ([] :: setL L k H')) :
    WPL Tryz.prog n lo s ops Q (⟨some dd, .call { callee := .value (.func 115), args := args.toArray, argTypes := ts }, ty, pos, after, none⟩ :: rest) E L :=
  s_callG k (fun u H' F => u = vImg i d ∧ OInts 3 d (fadedImg i a).data H' ∧ F = []) ha hL (fun w hw hh hn => c_ifaded i d a H w hv hh hn) hd (fun v' H' F hu => by obtain ⟨rfl, hu, rfl⟩ := hu; exact c H' hu)
end
theorem c_surfacePicture (s : DSurf) (d : Value) (W : World) (hok : s.ok) (hd : RInts W d s.buf.data) : SYieldsF Tryz.prog 108 #[vSurf s d] (fun u H => OImg u (pictureOf s) H) W := by
  have hp : pictureOf s = fadedImg (rawPicture s) s.Alpha := by unfold pictureOf; rw [if_pos hok]
  have hr1 : s.W ≠ 0 → rawPicture s = scaled (oriented s.buf s.Orient) s.W s.H := fun e => by unfold rawPicture; rw [if_pos e]
  have hr2 : ¬ s.W ≠ 0 → rawPicture s = oriented s.buf s.Orient := fun e => by unfold rawPicture; rw [if_neg e]
  (first | apply SYields.mk | apply SYieldsF.mk | skip); refine s_enter Tryz.func108 rfl Tryz.ntmps108 rfl ?_
  repeat' (first | exact rfl | (apply kO; (first | exact ov_pure rfl | (apply kOBin; (first | exact aBin)) | (apply kOCall; (first | (apply kCallB; (first | exact aBlt | exact aLenR)))) | (apply kOLoad; (first | exact aLdF | exact aLdR)) | exact ov_fieldAddr rfl | (apply kOIdx; (first | exact aIdx)) | exact aRest | exact aNew | exact (ov_field1 (ft := 31) rfl rfl rfl rfl))) | (refine kN ?_; (first | (refine kCall ?_; (first | (refine kWFunc ?_; (refine s_callF (fun u H => OImg u (oriented s.buf s.Orient) H) rfl (fun w hw => c_ioriented s.buf _ _ w (riA hw)) rfl (fun u H hu => ?_); obtain ⟨d', rfl, hu⟩ := hu; have f1 := hu.form; obtain ⟨_, _, rfl⟩ := f1)) | (refine kWFunc ?_; (refine s_callF (fun u H => OImg u (scaled (oriented s.buf s.Orient) s.W s.H) H) rfl (fun w hw => c_iscaled (oriented s.buf s.Orient) _ _ _ w (riA hw)) rfl (fun u H hu => ?_); obtain ⟨d', rfl, hu⟩ := hu; have f1 := hu.form; obtain ⟨_, _, rfl⟩ := f1)) | (refine kWFn 115 ?_; (refine s_faded _ (scaled (oriented s.buf s.Orient) s.W s.H) rfl (by assumption) gpA rfl (fun H' hu => ?_))) | (refine kWFn 115 ?_; (refine s_faded _ (oriented s.buf s.Orient) rfl (by assumption) gpA rfl (fun H' hu => ?_))) | apply s_step)) | (refine kStore ?_; (first | refine s_store1 _ rfl rfl gpA rfl (by rfl) ?_ | refine s_storeS _ rfl rfl gpA rfl rfl (by rfl) ?_ | refine s_storeS _ rfl rfl gpA rfl (ones_img oiA) (by rfl) ?_)) | refine s_boxS rfl rfl (fun b hb => ?_) | refine s_allocS rfl (fun b hb => ?_) | refine s_box1 rfl rfl rfl (fun b hb => ?_) | refine s_alloc1 rfl rfl (fun b hb => ?_) | refine s_buildSlice0 rfl (fun b hb => ?_) | refine s_buildSlice rfl rfl rfl rfl rfl (fun b hb => ?_) | apply s_step)) | (refine kG ?_; (first | refine s_gyes rfl rfl rfl ?_ | refine s_gno rfl rfl rfl rfl rfl ?_ | ((first | refine s_split_d rfl rfl (fun h => ?_) (fun h => ?_) | refine s_split_n rfl rfl (fun h => ?_) (fun h => ?_)) <;> (try (first | contradiction | (exfalso; omega)))) | refine s_split_nb rfl rfl (fun h => ?_) (fun h => ?_) | refine s_split rfl rfl (fun h => ?_) (fun h => ?_))) | refine l_then ?_ | (refine kC ?_; (first | refine c_seq ?_ | refine c_regionN rfl ?_ | refine c_ret ?_ | (refine kCond ?_; (first | refine c_cond_t rfl ?_ | refine c_cond_f rfl ?_ | ((first | refine c_cond_d rfl (fun h => ?_) (fun h => ?_) | refine c_cond_n rfl (fun h => ?_) (fun h => ?_)) <;> (try (first | contradiction | (exfalso; omega)))) | refine c_cond_nb rfl (fun h => ?_) (fun h => ?_) | refine c_cond rfl (fun h => ?_) (fun h => ?_))) | refine c_block ?_ | refine c_skip ?_ | refine c_exit ?_ | refine c_regionQN rfl rfl (by decide +kernel) ?_)) | apply s_stepQ | (refine kQG ?_; (first | refine s_gyesQ rfl rfl rfl ?_ | refine s_gnoQ rfl rfl rfl rfl rfl ?_ | ((first | refine s_splitQ_d rfl rfl (fun h => ?_) (fun h => ?_) | refine s_splitQ_n rfl rfl (fun h => ?_) (fun h => ?_)) <;> (try (first | contradiction | (exfalso; omega)))) | refine s_splitQ_nb rfl rfl (fun h => ?_) (fun h => ?_) | refine s_splitQ rfl rfl (fun h => ?_) (fun h => ?_))) | refine lQ_then ?_ | refine lQ_ends ?_ | (refine kE ?_; (first | refine e_then_r ?_ | refine e_block_r ?_ | refine e_then_n ?_ | refine e_then_x ?_ | refine e_block_n ?_ | refine e_block_x ?_ | refine e_block_y rfl ?_)) | refine l_ends ?_)
  all_goals (refine kE ?_; refine s_leaveSF rfl rfl rfl fwA (fun w hw => ?_))
  all_goals (rw [hp]; first | rw [hr1 (by assumption)] | rw [hr2 (by assumption)])
  all_goals exact ⟨_, _, rfl, ⟨_, rfl, hu⟩, hw.toFresh gpA⟩
theorem c_spictureOf (s : DSurf) (d : Value) (W : World) (hd : RInts W d s.buf.data) : SYieldsF Tryz.prog 72 #[vSurf s d] (fun u H => OImg u (pictureOf s) H) W := by
  by_cases hok : s.ok
  · have hp : pictureOf s = fadedImg (rawPicture s) s.Alpha := by unfold pictureOf; rw [if_pos hok]
    have hsz := hok.2.2.2.1
    unfold DSurf.sized at hsz
    have hr1 : s.W ≠ 0 → rawPicture s = scaled (oriented s.buf s.Orient) s.W s.H := fun e => by unfold rawPicture; rw [if_pos e]
    have hr2 : ¬ s.W ≠ 0 → rawPicture s = oriented s.buf s.Orient := fun e => by unfold rawPicture; rw [if_neg e]
    have hml := fun l => mapFirst_length (fun p => fade p s.Alpha) l
    (first | apply SYields.mk | apply SYieldsF.mk | skip); refine s_enter Tryz.func72 rfl Tryz.ntmps72 rfl ?_
    repeat' (first | exact rfl | (apply kO; (first | exact ov_pure rfl | (apply kOBin; (first | exact aBin)) | (apply kOCall; (first | (apply kCallF; (first | exact (ov_call rfl (fun w hw => c_ssurfaceOk s _ w (riA hw))) | exact (ov_call rfl (fun w hw => c_sfade _ _ w)))) | (apply kCallB; (first | exact aBlt | exact (ov_lenR (fun w hw => (rrA hw)) rfl) | exact aLenR)))) | (apply kOLoad; (first | exact (ov_ldR0 (fun w hw => (rrA hw)) rfl rfl (by rw [hml]; omega) rfl) | exact aLdF | exact aLdR)) | exact ov_fieldAddr rfl | (apply kOIdx; (first | exact (ov_idxR (fun w hw => (rrA hw)) rfl rfl (by rw [hml]; omega)) | exact aIdx)) | exact aRest | exact aNew | exact (ov_field1 (ft := 31) rfl rfl rfl rfl))) | (refine kN ?_; (first | (refine kCall ?_; (first | (refine kWFunc ?_; (refine s_callF (fun u H => OImg u (oriented s.buf s.Orient) H) rfl (fun w hw => c_soriented s.buf _ _ w (riA hw)) rfl (fun u H hu => ?_); obtain ⟨d', rfl, hu⟩ := hu; have f1 := hu.form; obtain ⟨_, _, rfl⟩ := f1; have hul := hu.len)) | (refine kWFunc ?_; (refine s_callF (fun u H => OImg u (scaled (oriented s.buf s.Orient) s.W s.H) H) rfl (fun w hw => c_sscaled (oriented s.buf s.Orient) _ _ _ w (riA hw)) rfl (fun u H hu => ?_); obtain ⟨d', rfl, hu⟩ := hu; have f1 := hu.form; obtain ⟨_, _, rfl⟩ := f1; have hul := hu.len)) | apply s_step)) | (refine kStore ?_; (first | (refine s_setI _ rfl rfl (by assumption) gpA (by rw [hml]; omega) (fun H' hu => ?_)) | refine s_store1 _ rfl rfl gpA rfl (by rfl) ?_ | refine s_storeS _ rfl rfl gpA rfl rfl (by rfl) ?_ | refine s_storeS _ rfl rfl gpA rfl (ones_img oiA) (by rfl) ?_)) | refine s_boxS rfl rfl (fun b hb => ?_) | refine s_allocS rfl (fun b hb => ?_) | refine s_box1 rfl rfl rfl (fun b hb => ?_) | refine s_alloc1 rfl rfl (fun b hb => ?_) | refine s_buildSlice0 rfl (fun b hb => ?_) | refine s_buildSlice rfl rfl rfl rfl rfl (fun b hb => ?_) | apply s_step)) | (refine kG ?_; (first | refine s_gyes rfl rfl rfl ?_ | refine s_gno rfl rfl rfl rfl rfl ?_ | ((first | refine s_split_d rfl rfl (fun h => ?_) (fun h => ?_) | refine s_split_n rfl rfl (fun h => ?_) (fun h => ?_)) <;> (try (first | contradiction | (exfalso; omega)))) | refine s_split_nb rfl rfl (fun h => ?_) (fun h => ?_) | refine s_split rfl rfl (fun h => ?_) (fun h => ?_))) | (refine kS ?_; (first | refine h_exec rfl ?_ | refine h_take_nil rfl rfl rfl ?_ | refine h_take_pick rfl rfl rfl ?_ | refine h_nil ?_ | refine h_alt ?_ ?_ | apply h_take)) | (refine kBack ?_; (first | refine h_back_last rfl ?_ | refine h_backN rfl subA ?_)) | refine l_then ?_ | (refine kC ?_; (first | (refine kReg 9 ?_; refine c_regionSN (SPlan.take 0 (SPlan.take 1 (SPlan.take 2 (SPlan.take 3 (SPlan.take 4 (SPlan.take 5 (SPlan.take 6 (SPlan.take 7 (SPlan.take 8 (SPlan.take 9 (SPlan.run 10 (SPlan.take 11 (SPlan.run 12 SPlan.done))))))))))))) (some 12) rfl rfl (by decide +kernel) ?_) | (refine kReg 9 ?_; refine c_regionSN (SPlan.take 0 (SPlan.take 1 (SPlan.take 2 (SPlan.take 3 (SPlan.take 4 (SPlan.take 5 (SPlan.take 6 (SPlan.take 7 (SPlan.take 8 (SPlan.take 9 (SPlan.run 10 (SPlan.take 11 (SPlan.run 12 SPlan.done))))))))))))) none rfl rfl (by decide +kernel) ?_) | (refine c_loopV (ι := Nat × SPiece) (fun j => j.1 ≤ (scaled (oriented s.buf s.Orient) s.W s.H).data.length ∧ OInts 3 _ (mapFirst (fun p => fade p s.Alpha) (scaled (oriented s.buf s.Orient) s.W s.H).data j.1) j.2) (fun j => [(4, .int .i64 (j.1 : Int))]) (fun j => [j.2, _, _, _, _]) (fun j => (scaled (oriented s.buf s.Orient) s.W s.H).data.length - j.1) (0, _) ⟨by dsimp only; omega, by rw [mapFirst_zero]; assumption⟩ rfl (fun _ => rfl) ⟨rfl, trivial⟩ (fun w hw => hw) (fun j hj => ?_); obtain ⟨hj1, hj2⟩ := hj) | (refine c_loopV (ι := Nat × SPiece) (fun j => j.1 ≤ (oriented s.buf s.Orient).data.length ∧ OInts 3 _ (mapFirst (fun p => fade p s.Alpha) (oriented s.buf s.Orient).data j.1) j.2) (fun j => [(4, .int .i64 (j.1 : Int))]) (fun j => [_, j.2, _, _]) (fun j => (oriented s.buf s.Orient).data.length - j.1) (0, _) ⟨by dsimp only; omega, by rw [mapFirst_zero]; assumption⟩ rfl (fun _ => rfl) ⟨rfl, trivial⟩ (fun w hw => hw) (fun j hj => ?_); obtain ⟨hj1, hj2⟩ := hj) | refine c_seq ?_ | refine c_regionN rfl ?_ | refine c_ret ?_ | (refine kCond ?_; (first | refine c_cond_t rfl ?_ | refine c_cond_f rfl ?_ | ((first | refine c_cond_d rfl (fun h => ?_) (fun h => ?_) | refine c_cond_n rfl (fun h => ?_) (fun h => ?_)) <;> (try (first | contradiction | (exfalso; omega)))) | refine c_cond_nb rfl (fun h => ?_) (fun h => ?_) | refine c_cond rfl (fun h => ?_) (fun h => ?_))) | refine c_block ?_ | refine c_skip ?_ | refine c_exit ?_ | refine c_regionQN rfl rfl (by decide +kernel) ?_)) | apply s_stepQ | (refine kQG ?_; (first | refine s_gyesQ rfl rfl rfl ?_ | refine s_gnoQ rfl rfl rfl rfl rfl ?_ | ((first | refine s_splitQ_d rfl rfl (fun h => ?_) (fun h => ?_) | refine s_splitQ_n rfl rfl (fun h => ?_) (fun h => ?_)) <;> (try (first | contradiction | (exfalso; omega)))) | refine s_splitQ_nb rfl rfl (fun h => ?_) (fun h => ?_) | refine s_splitQ rfl rfl (fun h => ?_) (fun h => ?_))) | refine lQ_then ?_ | refine lQ_ends ?_ | (refine kE ?_; (first | refine e_then_r ?_ | refine e_block_r ?_ | refine e_then_n ?_ | refine e_then_x ?_ | refine e_block_n ?_ | refine e_block_x ?_ | refine e_block_y rfl ?_)) | refine l_ends ?_)
    · have hs := mapFirst_set (fun p => fade p s.Alpha) (scaled (oriented s.buf s.Orient) s.W s.H).data (j := j.1) (by omega)
      rw [Int.toNat_natCast, mapFirst_get _ _ (by omega), hs] at hu
      exact e_round (j.1 + 1, H') ⟨by dsimp only; omega, hu⟩ ⟨rfl, (by repeat' first | exact trivial | refine ⟨rfl, ?_⟩)⟩ (fun w hw => hw) (by dsimp only; omega)
    · rw [mapFirst_all _ _ (by omega)] at hj2
      refine s_leaveSF rfl rfl rfl fwA (fun w hw => ⟨_, _, rfl, ?_, hw.toFresh (H := j.2) gpA⟩)
      rw [hp, hr1 (by omega)]
      exact ⟨_, rfl, hj2⟩
    · have hs := mapFirst_set (fun p => fade p s.Alpha) (oriented s.buf s.Orient).data (j := j.1) (by omega)
      rw [Int.toNat_natCast, mapFirst_get _ _ (by omega), hs] at hu
      exact e_round (j.1 + 1, H') ⟨by dsimp only; omega, hu⟩ ⟨rfl, (by repeat' first | exact trivial | refine ⟨rfl, ?_⟩)⟩ (fun w hw => hw) (by dsimp only; omega)
    · rw [mapFirst_all _ _ (by omega)] at hj2
      refine s_leaveSF rfl rfl rfl fwA (fun w hw => ⟨_, _, rfl, ?_, hw.toFresh (H := j.2) gpA⟩)
      rw [hp, hr2 (by omega)]
      exact ⟨_, rfl, hj2⟩
  · (first | apply SYields.mk | apply SYieldsF.mk | skip); refine s_enter Tryz.func72 rfl Tryz.ntmps72 rfl ?_
    repeat' (first | exact rfl | (apply kO; (first | exact ov_pure rfl | (apply kOBin; (first | exact aBin)) | (apply kOCall; (first | (apply kCallF; (first | exact (ov_call rfl (fun w hw => c_ssurfaceOk s _ w (riA hw))))) | (apply kCallB; (first | exact aBlt | exact aLenR)))) | (apply kOLoad; (first | exact aLdF | exact aLdR)) | exact ov_fieldAddr rfl | (apply kOIdx; (first | exact aIdx)) | exact aRest | exact aNew | exact (ov_field1 (ft := 31) rfl rfl rfl rfl))) | (refine kN ?_; (first | (refine kStore ?_; (first | refine s_store1 _ rfl rfl gpA rfl (by rfl) ?_ | refine s_storeS _ rfl rfl gpA rfl rfl (by rfl) ?_ | refine s_storeS _ rfl rfl gpA rfl (ones_img oiA) (by rfl) ?_)) | refine s_boxS rfl rfl (fun b hb => ?_) | refine s_allocS rfl (fun b hb => ?_) | refine s_box1 rfl rfl rfl (fun b hb => ?_) | refine s_alloc1 rfl rfl (fun b hb => ?_) | refine s_buildSlice0 rfl (fun b hb => ?_) | refine s_buildSlice rfl rfl rfl rfl rfl (fun b hb => ?_) | apply s_step)) | (refine kG ?_; (first | refine s_gyes rfl rfl rfl ?_ | refine s_gno rfl rfl rfl rfl rfl ?_ | ((first | refine s_split_d rfl rfl (fun h => ?_) (fun h => ?_) | refine s_split_n rfl rfl (fun h => ?_) (fun h => ?_)) <;> (try (first | contradiction | (exfalso; omega)))) | refine s_split_nb rfl rfl (fun h => ?_) (fun h => ?_) | refine s_split rfl rfl (fun h => ?_) (fun h => ?_))) | refine l_then ?_ | (refine kC ?_; (first | refine c_seq ?_ | refine c_regionN rfl ?_ | refine c_ret ?_ | (refine kCond ?_; (first | refine c_cond_t rfl ?_ | refine c_cond_f rfl ?_ | ((first | refine c_cond_d rfl (fun h => ?_) (fun h => ?_) | refine c_cond_n rfl (fun h => ?_) (fun h => ?_)) <;> (try (first | contradiction | (exfalso; omega)))) | refine c_cond_nb rfl (fun h => ?_) (fun h => ?_) | refine c_cond rfl (fun h => ?_) (fun h => ?_))) | refine c_block ?_ | refine c_skip ?_ | refine c_exit ?_ | refine c_regionQN rfl rfl (by decide +kernel) ?_)) | apply s_stepQ | (refine kQG ?_; (first | refine s_gyesQ rfl rfl rfl ?_ | refine s_gnoQ rfl rfl rfl rfl rfl ?_ | ((first | refine s_splitQ_d rfl rfl (fun h => ?_) (fun h => ?_) | refine s_splitQ_n rfl rfl (fun h => ?_) (fun h => ?_)) <;> (try (first | contradiction | (exfalso; omega)))) | refine s_splitQ_nb rfl rfl (fun h => ?_) (fun h => ?_) | refine s_splitQ rfl rfl (fun h => ?_) (fun h => ?_))) | refine lQ_then ?_ | refine lQ_ends ?_ | (refine kE ?_; (first | refine e_then_r ?_ | refine e_block_r ?_ | refine e_then_n ?_ | refine e_then_x ?_ | refine e_block_n ?_ | refine e_block_x ?_ | refine e_block_y rfl ?_)) | refine l_ends ?_)
    all_goals (refine kE ?_; refine s_leaveSF rfl rfl rfl fwA (fun w hw => ?_))
    all_goals (unfold pictureOf; rw [if_neg hok]; exact ⟨_, [], rfl, ⟨_, rfl, OInts.nil _⟩, hw.toFresh0⟩)
end Go.Proofs.YtpcammhmgleonaaGreat
namespace Go.Proofs.YtpcammhmgleonaaGreat
open Go Sx
attribute [local irreducible] Exit.then Exit.inBlock bodyPost oriented scaled pictureOf rawPicture
theorem apart_new {s w : World} {L : SHeap} {i : Nat} {H : SPiece} {v : Value} {l : List Int} (hw : SSt [] s L w) (hL : getL L i = some H) (hv : RInts s v l) (hne : 0 < l.length) : Apart H.keys v := by
  unfold Apart
  intro hm
  obtain ⟨⟨k, o⟩, h1, h2⟩ := List.mem_map.1 hm
  have h3 := hv.cell 0 hne 0 _ rfl
  have h4 := World.block_lt_of_cell? s _ h3
  have h5 := (hw.blocks k o (getL_flat hL h1)).1
  simp only [List.not_mem_nil, false_or] at h5
  dsimp only at h2 h4
  omega
theorem pic_len {s : DSurf} (h : s.ok) : (pictureOf s).data.length = ((surfSize s).1 * (surfSize s).2).toNat := by
  have h1 := surfSize_pic h
  rw [(pictureOf_ok h).lenN, h1.1, h1.2]
def rowsG (r : DRect) (j : Nat) : Grid := fun y x => r.holds y x && decide ((y : Int) < r.Y + j)
theorem rowsG_zero (r : DRect) : (rowsG r 0).eqv Grid.none := fun y x hy hx => by
  unfold rowsG DRect.holds Grid.none
  rw [← Bool.decide_and]; exact decide_eq_false (fun hh => by have h1 := hh.1.2; have h2 := hh.2; omega)
theorem rowsG_next {r : DRect} (h : r.ok) (h0 : 0 ≤ r.X ∧ 0 ≤ r.Y) {j : Nat} (hj : (j : Int) < r.H) : (Grid.row (rowsG r j) (r.Y + j).toNat (fun i => decide (r.X.toNat ≤ i ∧ i < r.X.toNat + r.W.toNat))).eqv (rowsG r (j + 1)) := fun y x hy hx => by
  have h' := h
  unfold DRect.ok at h'
  unfold Grid.row rowsG DRect.holds
  by_cases e : y = (r.Y + j).toNat
  · subst e
    rw [if_pos rfl, ← Bool.decide_and]
    exact decide_eq_decide.2 ⟨fun hh => ⟨⟨h, by omega⟩, by push_cast; omega⟩, fun hh => by have h1 := hh.1.2; omega⟩
  · rw [if_neg e, ← Bool.decide_and, ← Bool.decide_and]
    exact decide_eq_decide.2 ⟨fun hh => ⟨hh.1, by push_cast; omega⟩, fun hh => ⟨hh.1, by have h1 := hh.2; have h2 := hh.1.2; push_cast at h1; omega⟩⟩
theorem rowsG_all {r : DRect} {j : Nat} (hj : r.H ≤ (j : Int)) : (rowsG r j).eqv (rectG r) := fun y x hy hx => by
  unfold rowsG rectG DRect.holds
  rw [← Bool.decide_and]
  exact decide_eq_decide.2 ⟨fun hh => hh.1, fun hh => ⟨hh, by have := hh.2; omega⟩⟩
theorem inter_screen_in (r : DRect) : 0 ≤ (r.inter DRect.screen).X ∧ 0 ≤ (r.inter DRect.screen).Y ∧ 0 ≤ (r.inter DRect.screen).W ∧ 0 ≤ (r.inter DRect.screen).H ∧ (r.inter DRect.screen).X + (r.inter DRect.screen).W ≤ 16 ∧ (r.inter DRect.screen).Y + (r.inter DRect.screen).H ≤ 16 := by
  by_cases h : r.ok
  · unfold DRect.inter
    rw [if_pos ⟨h, screen_ok⟩]
    unfold DRect.ok at h
    split
    · unfold DRect.zero; dsimp only; omega
    · rename_i hh; unfold DRect.screen at hh ⊢; dsimp only at hh ⊢; omega
  · rw [inter_not (.inl h)]; unfold DRect.zero; dsimp only; omega
theorem span_val {X W : Int} (h1 : 0 ≤ X) (h2 : 0 ≤ W) (h3 : X + W ≤ 16) : (((2 ^ W.toNat : Nat) : Int) - 1) * 2 ^ X.toNat = (Sx.bits (fun i => decide (X.toNat ≤ i ∧ i < X.toNat + W.toNat)) 16 : Nat) := by
  rw [← bits_span (X := X.toNat) (W := W.toNat) (n := 16) (by omega)]
  have : 1 ≤ 2 ^ W.toNat := Nat.pow_pos (by omega)
  push_cast [this]
  rfl
section
variable {P : Program} {n : Nat} {lo : SMut} {s : World} {E : SEnv} {L : SHeap} {d : Option Tmp} {ty : TypeId} {pos : String} {after : Array Edge} {g0 : Option (Nat × Bool)} {x y : Operand} {xt yt : TypeId}
theorem ov_span {kj : IntKind} {X W : Int} (hx : sval E x = some (.int .i64 (((2 ^ W.toNat : Nat) : Int) - 1))) (hy : sval E y = some (.int kj X)) (h1 : 0 ≤ X) (h2 : 0 ≤ W) (h3 : X + W ≤ 16) :
    SOpV P n lo s E L ⟨d, .binOp .shl xt x y yt, ty, pos, after, g0⟩ (.int .i64 (Sx.bits (fun i => decide (X.toNat ≤ i ∧ i < X.toNat + W.toNat)) 16 : Nat)) := by
  have hb := bits16 (fun i => decide (X.toNat ≤ i ∧ i < X.toNat + W.toNat))
  rw [← span_val h1 h2 h3] at hb ⊢
  exact ov_shl hx hy (by omega) (by omega)
end
theorem pow_bd {j : Int} (h : 0 ≤ j ∧ j ≤ 16) : 1 ≤ ((2 ^ j.toNat : Nat) : Int) ∧ ((2 ^ j.toNat : Nat) : Int) ≤ 65536 := by
  have h1 : 2 ^ j.toNat ≤ 2 ^ 16 := Nat.pow_le_pow_right (by omega) (by omega)
  have h2 : 0 < 2 ^ j.toNat := Nat.pow_pos (by omega)
  have hm : ∀ m : Nat, 0 < m → m ≤ 2 ^ 16 → 1 ≤ (m : Int) ∧ (m : Int) ≤ 65536 := fun m a b => by omega
  exact hm _ h2 h1
theorem mapTo_pixD {f : Int → Int → Int} (h : ∀ x y, pixP (f x y)) (w : Int) (n q : Nat) : pixP ((mapTo f w n).getD q 0) := by
  by_cases e : q < n
  · rw [mapTo_get f w e]; exact h _ _
  · rw [List.getD_eq_getElem?_getD, List.getElem?_eq_none (by rw [mapTo_length]; omega)]; unfold pixP; simp
theorem c_gridOf (r0 : DRect) (w : World) : SYields Tryz.prog 55 #[vRect r0] (gval (rectG r0)) w := by
  rw [← gval_congr (inter_screen (r := r0))]
  have hin := inter_screen_in r0
  have hok : (r0.inter DRect.screen).ok := by unfold DRect.ok; omega
  (first | apply SYields.mk | apply SYieldsF.mk | skip); refine s_enter Tryz.func55 rfl Tryz.ntmps55 rfl ?_
  repeat' (first | exact rfl | (apply kO; (first | exact ov_pure rfl | (apply kOBin; (first | exact aBin | exact (ov_sub rfl rfl (by have := pow_bd (j := (r0.inter DRect.screen).W) (by omega); omega)))) | (apply kOCall; (first | (apply kCallF; (first | exact (ov_call rfl (fun w hw => c_iintersect r0 DRect.screen w)))) | (apply kCallB; (first | exact aBlt | exact aLenR)))) | (apply kOLoad; (first | exact aLdF | exact aLdR)) | exact ov_fieldAddr rfl | (apply kOIdx; (first | exact (ov_indexAddrA rfl rfl (by omega)) | exact aIdx)) | exact aRest | exact (ov_bit rfl rfl (by omega)) | exact (ov_span rfl rfl (by omega) (by omega) (by omega)) | exact (ov_buildA0) | exact aNew | exact (ov_field1 (ft := 31) rfl rfl rfl rfl))) | (refine kN ?_; (first | (refine kStore ?_; (first | (refine s_setR _ rfl rfl gpA rfl (by simp [gl]; omega) ?_) | refine s_store1 _ rfl rfl gpA rfl (by rfl) ?_ | refine s_storeS _ rfl rfl gpA rfl rfl (by rfl) ?_ | refine s_storeS _ rfl rfl gpA rfl (ones_img oiA) (by rfl) ?_)) | refine s_boxS rfl rfl (fun b hb => ?_) | refine s_allocS rfl (fun b hb => ?_) | refine s_box1 rfl rfl rfl (fun b hb => ?_) | refine s_alloc1 rfl rfl (fun b hb => ?_) | refine s_buildSlice0 rfl (fun b hb => ?_) | refine s_buildSlice rfl rfl rfl rfl rfl (fun b hb => ?_) | apply s_step)) | (refine kG ?_; (first | refine s_gyes rfl rfl rfl ?_ | refine s_gno rfl rfl rfl rfl rfl ?_ | ((first | refine s_split_d rfl rfl (fun h => ?_) (fun h => ?_) | refine s_split_n rfl rfl (fun h => ?_) (fun h => ?_)) <;> (try (first | contradiction | (exfalso; omega)))) | refine s_split_nb rfl rfl (fun h => ?_) (fun h => ?_) | refine s_split rfl rfl (fun h => ?_) (fun h => ?_))) | (refine kS ?_; (first | refine h_exec rfl ?_ | refine h_take_nil rfl rfl rfl ?_ | refine h_take_pick rfl rfl rfl ?_ | refine h_nil ?_ | refine h_alt ?_ ?_ | apply h_take)) | (refine kBack ?_; (first | refine h_back_last rfl ?_ | refine h_backN rfl subA ?_)) | refine l_then ?_ | (refine kC ?_; (first | (refine kReg 6 ?_; refine c_regionSN (SPlan.take 0 (SPlan.take 1 (SPlan.take 2 (SPlan.take 3 (SPlan.take 4 (SPlan.take 5 (SPlan.take 6 (SPlan.take 7 (SPlan.take 8 (SPlan.run 9 SPlan.done)))))))))) (some 9) rfl rfl (by decide +kernel) ?_) | (refine kReg 6 ?_; refine c_regionSN (SPlan.take 0 (SPlan.take 1 (SPlan.take 2 (SPlan.take 3 (SPlan.take 4 (SPlan.take 5 (SPlan.take 6 (SPlan.take 7 (SPlan.take 8 (SPlan.run 9 SPlan.done)))))))))) none rfl rfl (by decide +kernel) ?_) | (refine c_loopV (ι := Nat) (fun j => (j : Int) ≤ (r0.inter DRect.screen).H) (fun j => [(4, .int .i64 ((r0.inter DRect.screen).Y + j))]) (fun j => [[(_, srow (gl (rowsG (r0.inter DRect.screen) j)) _)], _, _]) (fun j => (r0.inter DRect.screen).H.toNat - j) 0 (by omega) rfl (fun _ => rfl) ⟨slook_to rfl (vint_to (by simp)), trivial⟩ (fun w hw => by rw [gl_congr (rowsG_zero _)]; exact hw) (fun j hj => ?_)) | refine c_seq ?_ | refine c_regionN rfl ?_ | refine c_ret ?_ | (refine kCond ?_; (first | refine c_cond_t rfl ?_ | refine c_cond_f rfl ?_ | ((first | refine c_cond_d rfl (fun h => ?_) (fun h => ?_) | refine c_cond_n rfl (fun h => ?_) (fun h => ?_)) <;> (try (first | contradiction | (exfalso; omega)))) | refine c_cond_nb rfl (fun h => ?_) (fun h => ?_) | refine c_cond rfl (fun h => ?_) (fun h => ?_))) | refine c_block ?_ | refine c_skip ?_ | refine c_exit ?_ | refine c_regionQN rfl rfl (by decide +kernel) ?_)) | apply s_stepQ | (refine kQG ?_; (first | refine s_gyesQ rfl rfl rfl ?_ | refine s_gnoQ rfl rfl rfl rfl rfl ?_ | ((first | refine s_splitQ_d rfl rfl (fun h => ?_) (fun h => ?_) | refine s_splitQ_n rfl rfl (fun h => ?_) (fun h => ?_)) <;> (try (first | contradiction | (exfalso; omega)))) | refine s_splitQ_nb rfl rfl (fun h => ?_) (fun h => ?_) | refine s_splitQ rfl rfl (fun h => ?_) (fun h => ?_))) | refine lQ_then ?_ | refine lQ_ends ?_ | (refine kE ?_; (first | refine e_then_r ?_ | refine e_block_r ?_ | refine e_then_n ?_ | refine e_then_x ?_ | refine e_block_n ?_ | refine e_block_x ?_ | refine e_block_y rfl ?_)) | refine l_ends ?_)
  · refine e_round (j + 1) (by push_cast; omega) ⟨slook_to rfl (vint_to (by push_cast; omega)), (by repeat' first | exact trivial | refine ⟨rfl, ?_⟩)⟩ (fun w hw => ?_) (by omega)
    have e : (gl (rowsG (r0.inter DRect.screen) j)).set (0 + ((r0.inter DRect.screen).Y + j).toNat * 1) (.int .i64 (Sx.bits (fun i => decide ((r0.inter DRect.screen).X.toNat ≤ i ∧ i < (r0.inter DRect.screen).X.toNat + (r0.inter DRect.screen).W.toNat)) 16 : Nat)) = gl (rowsG (r0.inter DRect.screen) (j + 1)) := by
      rw [Nat.zero_add, Nat.mul_one, gl_set _ (by omega), gl_congr (rowsG_next hok ⟨by omega, by omega⟩ (by omega))]
    rw [← e]; exact hw
  · refine s_leaveSF rfl rfl rfl fwA (fun w hw => ⟨?_, hw.below⟩)
    show Ending.returned (gval (rowsG (r0.inter DRect.screen) j)) = _
    rw [gval_congr (rowsG_all (by omega))]
set_option maxHeartbeats 2000000 in
theorem c_paintOne (pw ph : Int) (old : Int → Int → Int) (v : Value) (q : DSurf) (ds : Value) (g : Grid) (H : SPiece) (W : World) (hpw : 1 ≤ pw ∧ pw ≤ 16) (hph : 1 ≤ ph ∧ ph ≤ 16) (hq : q.ok) (hpx : ∀ a c, pixP (old a c)) (hv : OInts 3 v (mapTo old pw (pw * ph).toNat) H) (hd : RInts W ds q.buf.data) (hap : Apart H.keys ds) (hH : Holds W H) (hn : H.keys.Nodup) :
    SYieldsG Tryz.prog 93 #[.agg #[.int .i64 pw, .int .i64 ph, v], vSurf q ds, gval g] H (fun u H' F => u = .int .i64 (hitN q g pw ph ((surfSize q).1 * (surfSize q).2).toNat) ∧ OInts 3 v (mapTo (oneTo q g old ((surfSize q).1 * (surfSize q).2).toNat) pw (pw * ph).toNat) H' ∧ F = []) W := by
  have hpl := pic_len hq
  have hsz := surfSize_bd hq
  have hps := surfSize_pic hq
  have hwh := side_mul (w := pw) (h := ph) ⟨hpw.1, hpw.2, hph.1, hph.2⟩
  have hN := side_mul (w := (surfSize q).1) (h := (surfSize q).2) ⟨hsz.1.1, hsz.1.2, hsz.2.1, hsz.2.2⟩
  have hq' := hq
  unfold DSurf.ok at hq'
  have hm := fun k => mod_row (w := (pictureOf q).W) (q := k) (by rw [hps.1]; exact hsz.1.1)
  have hdv := fun (k : Nat) (hk : k < ((surfSize q).1 * (surfSize q).2).toNat) => div_lt (w := (surfSize q).1) (h := (surfSize q).2) (q := k) hsz.1.1 hk
  have hhb := fun k => hitN_bd q g pw ph k
  have hdv' := fun (k : Nat) (hk : k < ((surfSize q).1 * (surfSize q).2).toNat) => (show (k : Int) / (pictureOf q).W < (surfSize q).2 by rw [hps.1]; exact hdv k hk)
  have hpok := pictureOf_ok hq
  have pic_pix := fun k => hpok.pix k
  have one_pix := fun (k : Nat) x y => oneTo_pix hq g k (hpx x y)
  refine SYieldsG.mk (s_enterM Tryz.func93 rfl Tryz.ntmps93 rfl hH hn ?_)
  repeat' (first | exact rfl | (apply kO; (first | exact ov_pure rfl | (apply kOBin; (first | exact aBin | exact (ov_andBit rfl rfl (by omega)) | exact (ov_add rfl rfl (by have := hm k.1; have := hdv' k.1 (by omega); omega)) | exact (ov_add rfl rfl (by have := hhb k.1; omega)) | exact (ov_mul rfl rfl (by have := mul_bd (a := q.Y + (k.1 : Int) / (pictureOf q).W) (b := pw) (A := 16) (B := 16) (by omega) (by omega); omega)) | exact (ov_add rfl rfl (by have := mul_bd (a := q.Y + (k.1 : Int) / (pictureOf q).W) (b := pw) (A := 16) (B := 16) (by omega) (by omega); omega)))) | (apply kOCall; (first | (apply kCallF; (first | exact (ov_call rfl (fun w hw => c_within _ _ _ w)) | exact (ov_call rfl (fun w hw => c_iover _ _ w (pic_pix _) (mapTo_pixD (one_pix k.1) _ _ _))))) | (apply kCallB; (first | exact aBlt | exact aLenR)))) | (apply kOLoad; (first | exact (ov_ldG g rfl rfl gpA (by omega)) | exact (ov_ldR0 (fun w hw => (rrA hw)) rfl rfl (by rw [mapTo_length]; have := place_lt (w := pw) (h := ph) (x := q.X + (k.1 : Int) % (pictureOf q).W) (y := q.Y + (k.1 : Int) / (pictureOf q).W) (by omega) (by omega); omega) rfl) | exact aLdF | exact aLdR)) | exact ov_fieldAddr rfl | (apply kOIdx; (first | exact (ov_indexAddrA rfl rfl (by omega)) | exact (ov_idxR (fun w hw => (rrA hw)) rfl rfl (by rw [mapTo_length]; have := place_lt (w := pw) (h := ph) (x := q.X + (k.1 : Int) % (pictureOf q).W) (y := q.Y + (k.1 : Int) / (pictureOf q).W) (by omega) (by omega); omega)) | exact aIdx)) | exact aRest | exact (ov_bit rfl rfl (by omega)) | exact aNew | exact (ov_field1 (ft := 31) rfl rfl rfl rfl))) | (refine kN ?_; (first | (refine kCall ?_; (first | (refine kWFn 108 ?_; (refine s_callF (fun u H => OImg u (pictureOf q) H) rfl (fun w hw => c_surfacePicture q _ w hq (riA hw)) rfl (fun u H1 hu => ?_); obtain ⟨d', rfl, hu⟩ := hu; have f1 := hu.form; obtain ⟨_, _, rfl⟩ := f1)) | apply s_step)) | (refine kStore ?_; (first | (refine s_setI _ rfl rfl (by assumption) gpA (by rw [mapTo_length]; have := place_lt (w := pw) (h := ph) (x := q.X + (k.1 : Int) % (pictureOf q).W) (y := q.Y + (k.1 : Int) / (pictureOf q).W) (by omega) (by omega); omega) (fun H' hst => ?_)) | refine s_store1 _ rfl rfl gpA rfl (by rfl) ?_ | refine s_storeS _ rfl rfl gpA rfl rfl (by rfl) ?_ | refine s_storeS _ rfl rfl gpA rfl (ones_img oiA) (by rfl) ?_)) | refine s_boxS rfl rfl (fun b hb => ?_) | refine s_allocS rfl (fun b hb => ?_) | refine s_box1 rfl rfl rfl (fun b hb => ?_) | refine s_alloc1 rfl rfl (fun b hb => ?_) | refine s_buildSlice0 rfl (fun b hb => ?_) | refine s_buildSlice rfl rfl rfl rfl rfl (fun b hb => ?_) | apply s_step)) | (refine kG ?_; (first | refine s_gyes rfl rfl rfl ?_ | refine s_gno rfl rfl rfl rfl rfl ?_ | ((first | refine s_split_d rfl rfl (fun h => ?_) (fun h => ?_) | refine s_split_n rfl rfl (fun h => ?_) (fun h => ?_)) <;> (try (first | contradiction | (exfalso; omega)))) | refine s_split_nb rfl rfl (fun h => ?_) (fun h => ?_) | refine s_split rfl rfl (fun h => ?_) (fun h => ?_))) | (refine kS ?_; (first | refine h_exec rfl ?_ | refine h_take_nil rfl rfl rfl ?_ | refine h_take_pick rfl rfl rfl ?_ | refine h_nil ?_ | refine h_alt ?_ ?_ | apply h_take)) | (refine kBack ?_; (first | refine h_back_last rfl ?_ | refine h_backN rfl subA ?_)) | refine l_then ?_ | (refine kC ?_; (first | (refine kReg 8 ?_; refine c_regionSN (SPlan.take 0 (SPlan.take 1 (SPlan.take 2 (SPlan.take 3 (SPlan.take 4 (SPlan.take 5 (SPlan.take 6 (SPlan.take 7 (SPlan.take 8 (SPlan.take 9 (SPlan.take 10 (SPlan.take 11 (SPlan.take 12 (SPlan.take 13 (SPlan.take 14 (SPlan.take 15 (SPlan.take 16 (SPlan.take 17 (SPlan.take 18 (SPlan.run 19 (SPlan.take 20 (SPlan.run 21 SPlan.done)))))))))))))))))))))) (some 21) rfl rfl (by decide +kernel) ?_) | (refine kReg 8 ?_; refine c_regionSN (SPlan.take 0 (SPlan.take 1 (SPlan.take 2 (SPlan.take 3 (SPlan.take 4 (SPlan.take 5 (SPlan.take 6 (SPlan.take 7 (SPlan.take 8 (SPlan.take 9 (SPlan.take 10 (SPlan.take 11 (SPlan.take 12 (SPlan.take 13 (SPlan.take 14 (SPlan.take 15 (SPlan.take 16 (SPlan.take 17 (SPlan.take 18 (SPlan.run 19 (SPlan.take 20 (SPlan.run 21 SPlan.done)))))))))))))))))))))) none rfl rfl (by decide +kernel) ?_) | (refine c_loopV (ι := Nat × SPiece) (fun k => k.1 ≤ ((surfSize q).1 * (surfSize q).2).toNat ∧ OInts 3 v (mapTo (oneTo q g old k.1) pw (pw * ph).toNat) k.2) (fun k => [(8, .int .i64 (hitN q g pw ph k.1)), (18, .int .i64 (k.1 : Int))]) (fun k => [_, _, _, _, _, k.2]) (fun k => ((surfSize q).1 * (surfSize q).2).toNat - k.1) (0, _) ⟨by dsimp only; omega, by rw [show oneTo q g old 0 = old by funext x y; exact oneTo_zero hq g old x y]; exact hv⟩ rfl (fun _ => rfl) ⟨rfl, rfl, trivial⟩ (fun w hw => hw) (fun k hk => ?_); obtain ⟨hk1, hk2⟩ := hk) | refine c_seq ?_ | refine c_regionN rfl ?_ | refine c_ret ?_ | (refine kCond ?_; (first | refine c_cond_t rfl ?_ | refine c_cond_f rfl ?_ | ((first | refine c_cond_d rfl (fun h => ?_) (fun h => ?_) | refine c_cond_n rfl (fun h => ?_) (fun h => ?_)) <;> (try (first | contradiction | (exfalso; omega)))) | refine c_cond_nb rfl (fun h => ?_) (fun h => ?_) | refine c_cond rfl (fun h => ?_) (fun h => ?_))) | refine c_block ?_ | refine c_skip ?_ | refine c_exit ?_ | refine c_regionQN rfl rfl (by decide +kernel) ?_)) | apply s_stepQ | (refine kQG ?_; (first | refine s_gyesQ rfl rfl rfl ?_ | refine s_gnoQ rfl rfl rfl rfl rfl ?_ | ((first | refine s_splitQ_d rfl rfl (fun h => ?_) (fun h => ?_) | refine s_splitQ_n rfl rfl (fun h => ?_) (fun h => ?_)) <;> (try (first | contradiction | (exfalso; omega)))) | refine s_splitQ_nb rfl rfl (fun h => ?_) (fun h => ?_) | refine s_splitQ rfl rfl (fun h => ?_) (fun h => ?_))) | refine lQ_then ?_ | refine lQ_ends ?_ | (refine kE ?_; (first | refine e_then_r ?_ | refine e_block_r ?_ | refine e_then_n ?_ | refine e_then_x ?_ | refine e_block_n ?_ | refine e_block_x ?_ | refine e_block_y rfl ?_)) | refine l_ends ?_)
  · rename_i h1 h2 h3
    have hkN : k.1 < ((surfSize q).1 * (surfSize q).2).toNat := by omega
    have ekx : q.X + (k.1 : Int) % (pictureOf q).W = kx q k.1 := by unfold kx; rw [hps.1]
    have eky : q.Y + (k.1 : Int) / (pictureOf q).W = ky q k.1 := by unfold ky; rw [hps.1]
    rw [ekx] at h2
    rw [eky] at h3
    rw [ekx, eky] at h hst
    have hmi := one_hit hq (g := g) (old := old) (w := pw) (h := ph) hkN h2 h3 (bit_ne.1 h)
    rw [Int.toNat_natCast, hmi.1] at hst
    exact e_round (k.1 + 1, H') ⟨by dsimp only; omega, hst⟩ ⟨slook_to rfl (vint_to hmi.2), slook_to rfl (vint_to (by push_cast; rfl)), (by repeat' first | exact trivial | refine ⟨rfl, ?_⟩)⟩ (fun w hw => hw) (by dsimp only; omega)
  · rename_i h1 h2 h3
    have hkN : k.1 < ((surfSize q).1 * (surfSize q).2).toNat := by omega
    have ekx : q.X + (k.1 : Int) % (pictureOf q).W = kx q k.1 := by unfold kx; rw [hps.1]
    have eky : q.Y + (k.1 : Int) / (pictureOf q).W = ky q k.1 := by unfold ky; rw [hps.1]
    rw [ekx, eky] at h
    have hmi := one_miss hq (g := g) (old := old) (w := pw) (h := ph) hpw.1 hkN (fun hh => h (bit_ne.2 hh.2))
    rw [← hmi.1] at hk2
    exact e_round (k.1 + 1, k.2) ⟨by dsimp only; omega, hk2⟩ ⟨slook_to rfl (vint_to hmi.2.symm), slook_to rfl (vint_to (by push_cast; rfl)), (by repeat' first | exact trivial | refine ⟨rfl, ?_⟩)⟩ (fun w hw => hw) (by dsimp only; omega)
  · rename_i h1 h2
    have hkN : k.1 < ((surfSize q).1 * (surfSize q).2).toNat := by omega
    have ekx : q.X + (k.1 : Int) % (pictureOf q).W = kx q k.1 := by unfold kx; rw [hps.1]
    have eky : q.Y + (k.1 : Int) / (pictureOf q).W = ky q k.1 := by unfold ky; rw [hps.1]
    rw [eky] at h
    have hmi := one_miss hq (g := g) (old := old) (w := pw) (h := ph) hpw.1 hkN (fun hh => h hh.1.2)
    rw [← hmi.1] at hk2
    exact e_round (k.1 + 1, k.2) ⟨by dsimp only; omega, hk2⟩ ⟨slook_to rfl (vint_to hmi.2.symm), slook_to rfl (vint_to (by push_cast; rfl)), (by repeat' first | exact trivial | refine ⟨rfl, ?_⟩)⟩ (fun w hw => hw) (by dsimp only; omega)
  · rename_i h1
    have hkN : k.1 < ((surfSize q).1 * (surfSize q).2).toNat := by omega
    have ekx : q.X + (k.1 : Int) % (pictureOf q).W = kx q k.1 := by unfold kx; rw [hps.1]
    have eky : q.Y + (k.1 : Int) / (pictureOf q).W = ky q k.1 := by unfold ky; rw [hps.1]
    rw [ekx] at h
    have hmi := one_miss hq (g := g) (old := old) (w := pw) (h := ph) hpw.1 hkN (fun hh => h hh.1.1)
    rw [← hmi.1] at hk2
    exact e_round (k.1 + 1, k.2) ⟨by dsimp only; omega, hk2⟩ ⟨slook_to rfl (vint_to hmi.2.symm), slook_to rfl (vint_to (by push_cast; rfl)), (by repeat' first | exact trivial | refine ⟨rfl, ?_⟩)⟩ (fun w hw => hw) (by dsimp only; omega)
  · have hkN : k.1 = ((surfSize q).1 * (surfSize q).2).toNat := by omega
    rw [hkN] at hk2
    exact s_leave1 rfl (slook_to rfl (vint_to (by rw [hkN]))) (fun w hw => ⟨_, k.2, [], rfl, ⟨rfl, hk2, rfl⟩, (hw.sub (L' := [_]) (selO_sub [false, false, false, false, false, true] _ _ rfl)).lone⟩)
end Go.Proofs.YtpcammhmgleonaaGreat
namespace Go.Proofs.YtpcammhmgleonaaGreat
open Go Sx
attribute [local irreducible] Exit.then Exit.inBlock bodyPost oriented scaled pictureOf rawPicture
theorem c_imageRect (p q : Int) (v : Value) (w : World) : SYields Tryz.prog 92 #[.agg #[.int .i64 p, .int .i64 q, v]] (vRect ⟨0, 0, p, q⟩) w := by
  (first | apply SYields.mk | apply SYieldsF.mk | skip); refine s_enter Tryz.func92 rfl Tryz.ntmps92 rfl ?_
  repeat' (first | exact rfl | (apply kO; (first | exact ov_pure rfl | (apply kOBin; (first | exact aBin)) | (apply kOCall; (first | (apply kCallB; (first | exact aBlt | exact aLenR)))) | (apply kOLoad; (first | exact aLdF | exact aLdR)) | exact ov_fieldAddr rfl | (apply kOIdx; (first | exact aIdx)) | exact aRest | exact aNew | exact (ov_field1 (ft := 31) rfl rfl rfl rfl))) | (refine kN ?_; (first | (refine kStore ?_; (first | refine s_store1 _ rfl rfl gpA rfl (by rfl) ?_ | refine s_storeS _ rfl rfl gpA rfl rfl (by rfl) ?_ | refine s_storeS _ rfl rfl gpA rfl (ones_img oiA) (by rfl) ?_)) | refine s_boxS rfl rfl (fun b hb => ?_) | refine s_allocS rfl (fun b hb => ?_) | refine s_box1 rfl rfl rfl (fun b hb => ?_) | refine s_alloc1 rfl rfl (fun b hb => ?_) | (refine s_boxS rfl rfl (fun b hb => ?_)) | refine s_buildSlice0 rfl (fun b hb => ?_) | refine s_buildSlice rfl rfl rfl rfl rfl (fun b hb => ?_) | apply s_step)) | (refine kG ?_; (first | refine s_gyes rfl rfl rfl ?_ | refine s_gno rfl rfl rfl rfl rfl ?_ | ((first | refine s_split_d rfl rfl (fun h => ?_) (fun h => ?_) | refine s_split_n rfl rfl (fun h => ?_) (fun h => ?_)) <;> (try (first | contradiction | (exfalso; omega)))) | refine s_split_nb rfl rfl (fun h => ?_) (fun h => ?_) | refine s_split rfl rfl (fun h => ?_) (fun h => ?_))) | refine l_then ?_ | (refine kC ?_; (first | refine c_seq ?_ | refine c_regionN rfl ?_ | refine c_ret ?_ | (refine kCond ?_; (first | refine c_cond_t rfl ?_ | refine c_cond_f rfl ?_ | ((first | refine c_cond_d rfl (fun h => ?_) (fun h => ?_) | refine c_cond_n rfl (fun h => ?_) (fun h => ?_)) <;> (try (first | contradiction | (exfalso; omega)))) | refine c_cond_nb rfl (fun h => ?_) (fun h => ?_) | refine c_cond rfl (fun h => ?_) (fun h => ?_))) | refine c_block ?_ | refine c_skip ?_ | refine c_exit ?_ | refine c_regionQN rfl rfl (by decide +kernel) ?_)) | apply s_stepQ | (refine kQG ?_; (first | refine s_gyesQ rfl rfl rfl ?_ | refine s_gnoQ rfl rfl rfl rfl rfl ?_ | ((first | refine s_splitQ_d rfl rfl (fun h => ?_) (fun h => ?_) | refine s_splitQ_n rfl rfl (fun h => ?_) (fun h => ?_)) <;> (try (first | contradiction | (exfalso; omega)))) | refine s_splitQ_nb rfl rfl (fun h => ?_) (fun h => ?_) | refine s_splitQ rfl rfl (fun h => ?_) (fun h => ?_))) | refine lQ_then ?_ | refine lQ_ends ?_ | (refine kE ?_; (first | refine e_then_r ?_ | refine e_block_r ?_ | refine e_then_n ?_ | refine e_then_x ?_ | refine e_block_n ?_ | refine e_block_x ?_ | refine e_block_y rfl ?_)) | refine l_ends ?_)
  all_goals exact s_leaveSF rfl rfl rfl fwA (fun w hw => ⟨rfl, hw.below⟩)
set_option maxHeartbeats 2000000 in
theorem c_painted (s : DScene) (v : Value) (W : World) (hok : s.ok) (hv : RS eSurf W v s.ss) : SYieldsF Tryz.prog 65 #[vScene s v] (fun u H => OImg u (painted s) H) W := by
  have hve := hv
  obtain ⟨ds, hv⟩ := hv
  have hl := hv.row.len
  have hW := hok.1
  have hH := hok.2.1
  have hn := hok.2.2.2.1
  have hpos := fun (k : Nat) (hk : k < s.ss.length) => ((getD_ok hok hk).2.2.2.2.2.2.len).1
  (first | apply SYields.mk | apply SYieldsF.mk | skip); refine s_enter Tryz.func65 rfl Tryz.ntmps65 rfl ?_
  repeat' (first | exact rfl | (apply kO; (first | exact ov_pure rfl | (apply kOBin; (first | exact aBin)) | (apply kOCall; (first | (apply kCallF; (first | exact (ov_call rfl (fun w hw => c_imageRect _ _ _ w)) | exact (ov_call rfl (fun w hw => c_gridOf _ w)))) | (apply kCallB; (first | exact aBlt | exact aLenR)))) | (apply kOLoad; (first | exact aLdF | exact aLdR)) | exact ov_fieldAddr rfl | (apply kOIdx; (first | exact aIdx)) | exact aRest | exact aNew | exact (ov_field1 (ft := 31) rfl rfl rfl rfl))) | (refine kN ?_; (first | (refine kCall ?_; (first | (refine kWFn 24 ?_; (refine s_callF (fun u H => OImg u ⟨s.W, s.H, mapTo (paintTo s 0) s.W (s.W * s.H).toNat⟩ H) rfl (fun w hw => (by rw [newPaint s]; exact c_inewImage s.W s.H s.Back w hW hH hok.back)) rfl (fun u H hu => ?_); obtain ⟨d', rfl, hu⟩ := hu; have f1 := hu.form; obtain ⟨_, _, rfl⟩ := f1)) | (refine kWFn 93 ?_; (refine s_callG _ (H := j.2) (fun u H' F => u = .int .i64 (hitN (s.ss.getD j.1 default) (rectG ⟨0, 0, s.W, s.H⟩) s.W s.H ((surfSize (s.ss.getD j.1 default)).1 * (surfSize (s.ss.getD j.1 default)).2).toNat) ∧ OInts 3 _ (mapTo (oneTo (s.ss.getD j.1 default) (rectG ⟨0, 0, s.W, s.H⟩) (paintTo s j.1) ((surfSize (s.ss.getD j.1 default)).1 * (surfSize (s.ss.getD j.1 default)).2).toNat) s.W (s.W * s.H).toNat) H' ∧ F = []) rfl gpA (fun w hw hh hn => c_paintOne s.W s.H (paintTo s j.1) _ (s.ss.getD j.1 default) _ (rectG ⟨0, 0, s.W, s.H⟩) j.2 w hW hH (getD_ok hok (by omega)) (paintTo_pix hok j.1) hj2 (RInts.keep (hv.rd _ (by omega)) (hw.cells rfl)) (apart_new hw gpA (hv.rd _ (by omega)) (hpos _ (by omega))) hh hn) rfl (fun u H' F hst => ?_); obtain ⟨rfl, hst, rfl⟩ := hst)) | apply s_step)) | (refine kStore ?_; (first | (refine s_storeS _ rfl rfl gpA rfl (eSurf_ones (RInts.one (hv.rd _ (by omega)))) (by rfl) ?_) | refine s_store1 _ rfl rfl gpA rfl (by rfl) ?_ | refine s_storeS _ rfl rfl gpA rfl rfl (by rfl) ?_ | refine s_storeS _ rfl rfl gpA rfl (ones_img oiA) (by rfl) ?_)) | refine s_boxS rfl rfl (fun b hb => ?_) | refine s_allocS rfl (fun b hb => ?_) | refine s_box1 rfl rfl rfl (fun b hb => ?_) | refine s_alloc1 rfl rfl (fun b hb => ?_) | refine s_buildSlice0 rfl (fun b hb => ?_) | refine s_buildSlice rfl rfl rfl rfl rfl (fun b hb => ?_) | apply s_step)) | (refine kG ?_; (first | refine s_gyes rfl rfl rfl ?_ | refine s_gno rfl rfl rfl rfl rfl ?_ | ((first | refine s_split_d rfl rfl (fun h => ?_) (fun h => ?_) | refine s_split_n rfl rfl (fun h => ?_) (fun h => ?_)) <;> (try (first | contradiction | (exfalso; omega)))) | refine s_split_nb rfl rfl (fun h => ?_) (fun h => ?_) | refine s_split rfl rfl (fun h => ?_) (fun h => ?_))) | refine l_then ?_ | (refine kC ?_; (first | (refine c_loopV (ι := Nat × SPiece) (fun j => j.1 ≤ s.ss.length ∧ OInts 3 _ (mapTo (paintTo s j.1) s.W (s.W * s.H).toNat) j.2) (fun j => [(20, .int .i64 (j.1 : Int))]) (fun j => [_, _, j.2, _, _]) (fun j => s.ss.length - j.1) (0, _) ⟨by dsimp only; omega, hu⟩ rfl (fun _ => rfl) ⟨rfl, trivial⟩ (fun w hw => hw) (fun j hj => ?_); obtain ⟨hj1, hj2⟩ := hj) | refine c_seq ?_ | refine c_regionN rfl ?_ | refine c_ret ?_ | (refine kCond ?_; (first | refine c_cond_t rfl ?_ | refine c_cond_f rfl ?_ | ((first | refine c_cond_d rfl (fun h => ?_) (fun h => ?_) | refine c_cond_n rfl (fun h => ?_) (fun h => ?_)) <;> (try (first | contradiction | (exfalso; omega)))) | refine c_cond_nb rfl (fun h => ?_) (fun h => ?_) | refine c_cond rfl (fun h => ?_) (fun h => ?_))) | refine c_block ?_ | refine c_skip ?_ | refine c_exit ?_ | refine c_regionQN rfl rfl (by decide +kernel) ?_)) | apply s_stepQ | (refine kQG ?_; (first | refine s_gyesQ rfl rfl rfl ?_ | refine s_gnoQ rfl rfl rfl rfl rfl ?_ | ((first | refine s_splitQ_d rfl rfl (fun h => ?_) (fun h => ?_) | refine s_splitQ_n rfl rfl (fun h => ?_) (fun h => ?_)) <;> (try (first | contradiction | (exfalso; omega)))) | refine s_splitQ_nb rfl rfl (fun h => ?_) (fun h => ?_) | refine s_splitQ rfl rfl (fun h => ?_) (fun h => ?_))) | refine lQ_then ?_ | refine lQ_ends ?_ | (refine kE ?_; (first | refine e_then_r ?_ | refine e_block_r ?_ | refine e_then_n ?_ | refine e_then_x ?_ | refine e_block_n ?_ | refine e_block_x ?_ | refine e_block_y rfl ?_)) | refine l_ends ?_)
  · rename_i h1
    rw [painted_step hok (k := j.1) (by omega) h] at hst
    exact e_round (j.1 + 1, H') ⟨by dsimp only; omega, hst⟩ ⟨slook_to rfl (vint_to (by push_cast; rfl)), (by repeat' first | exact trivial | refine ⟨rfl, ?_⟩)⟩ (fun w hw => hw.sub (selO_sub [false, false, true, true, true, true, true] _ _ rfl)) (by dsimp only; omega)
  · rename_i h1
    have h' : (s.ss.getD j.1 default).Visible = false := h
    have e := painted_skip (s := s) (k := j.1) (by omega) (by rw [h']; exact Bool.false_ne_true)
    rw [← e] at hj2
    exact e_round (j.1 + 1, j.2) ⟨by dsimp only; omega, hj2⟩ ⟨slook_to rfl (vint_to (by push_cast; rfl)), (by repeat' first | exact trivial | refine ⟨rfl, ?_⟩)⟩ (fun w hw => hw.sub (selO_sub [false, true, true, true, true, true] _ _ rfl)) (by dsimp only; omega)
  · have e : paintTo s j.1 = paintF s := by funext x y; rw [show j.1 = s.ss.length by omega]; exact paintTo_all s x y
    rw [e] at hj2
    exact s_leaveSF rfl rfl rfl fwA (fun w hw => ⟨_, _, rfl, ⟨_, rfl, hj2⟩, hw.toFresh (H := j.2) gpA⟩)
end Go.Proofs.YtpcammhmgleonaaGreat
namespace Go.Proofs.YtpcammhmgleonaaGreat
open Go Sx
attribute [local irreducible] Exit.then Exit.inBlock bodyPost oriented scaled pictureOf rawPicture
set_option maxHeartbeats 4000000 in
theorem c_l11Paint (s : DScene) (v : Value) (W : World) (hok : s.ok) (hv : RS eSurf W v s.ss) : SYieldsF Tryz.prog 37 #[vScene s v] (fun u H => OImg u (painted s) H) W := by
  have hve := hv
  obtain ⟨ds, hv⟩ := hv
  have hl := hv.row.len
  have hW := hok.1
  have hH := hok.2.1
  have hn := hok.2.2.2.1
  have hb0 := hok.back
  unfold pixP at hb0
  have hrd := fun (k : Nat) (hk : k < s.ss.length) => hv.rd k hk
  have hpokk := fun (k : Nat) (hk : k < s.ss.length) q => (pictureOf_ok (getD_ok hok hk)).pix q
  have hpn := fun (k : Nat) (hk : k < s.ss.length) => (pictureOf_ok (getD_ok hok hk)).lenN
  have hwh := side_mul (w := s.W) (h := s.H) ⟨hW.1, hW.2, hH.1, hH.2⟩
  have hpm := fun (k : Nat) (hk : k < s.ss.length) => (⟨(pictureOf_ok (getD_ok hok hk)).1, (pictureOf_ok (getD_ok hok hk)).2.1, side_mul (w := (pictureOf (s.ss.getD k default)).W) (h := (pictureOf (s.ss.getD k default)).H) ⟨(pictureOf_ok (getD_ok hok hk)).1.1, (pictureOf_ok (getD_ok hok hk)).1.2, (pictureOf_ok (getD_ok hok hk)).2.1.1, (pictureOf_ok (getD_ok hok hk)).2.1.2⟩⟩ : _ ∧ _ ∧ _)
  have hbp := fun (k j i : Nat) x y => boxTo_pix (r := ((surfRect (s.ss.getD k default)).inter ⟨0, 0, s.W, s.H⟩)) (f := fun a c => over (pixOf (s.ss.getD k default) a c) (paintTo s k a c)) (old := paintTo s k) (fun a c => over_pixP (pixOf_pix _ a c) (paintTo_pix hok k a c)) (paintTo_pix hok k) j i x y
  have hib := fun (k : Nat) => box_bd (s := s.ss.getD k default) hW hH
  (first | apply SYields.mk | apply SYieldsF.mk | skip); refine s_enter Tryz.func37 rfl Tryz.ntmps37 rfl ?_
  repeat' (first | exact rfl | (apply kO; (first | exact ov_pure rfl | (apply kOBin; (first | exact aBin | exact (ov_add rfl rfl (by have := hib k.1; omega)) | exact (ov_sub rfl rfl (by have := hib k.1; omega)) | exact (ov_mul rfl rfl (by have hbx := box_at (getD_ok hok (k := k.1) (by omega)) hW hH (j := j.1) (i := i.1) (by omega) (by omega); have := mul_bd (a := ((surfRect (s.ss.getD k.1 default)).inter ⟨0, 0, s.W, s.H⟩).Y + (j.1 : Int)) (b := s.W) (A := 16) (B := 16) (by omega) (by omega); omega)) | exact (ov_add rfl rfl (by have hbx := box_at (getD_ok hok (k := k.1) (by omega)) hW hH (j := j.1) (i := i.1) (by omega) (by omega); have hpl := place_lt (w := s.W) (h := s.H) hbx.1 hbx.2.1; omega)) | exact (ov_sub rfl rfl (by have hbx := box_at (getD_ok hok (k := k.1) (by omega)) hW hH (j := j.1) (i := i.1) (by omega) (by omega); omega)) | exact (ov_mul rfl rfl (by have hbx := box_at (getD_ok hok (k := k.1) (by omega)) hW hH (j := j.1) (i := i.1) (by omega) (by omega); have hpmk := hpm k.1 (by omega); have := mul_bd (a := ((surfRect (s.ss.getD k.1 default)).inter ⟨0, 0, s.W, s.H⟩).Y + (j.1 : Int) - (surfRect (s.ss.getD k.1 default)).Y) (b := (pictureOf (s.ss.getD k.1 default)).W) (A := 16) (B := 16) (by omega) (by omega); omega)) | exact (ov_add rfl rfl (by have hbx := box_at (getD_ok hok (k := k.1) (by omega)) hW hH (j := j.1) (i := i.1) (by omega) (by omega); have hpq := place_lt (w := (pictureOf (s.ss.getD k.1 default)).W) (h := (pictureOf (s.ss.getD k.1 default)).H) hbx.2.2.1 hbx.2.2.2.1; have hpmk := hpm k.1 (by omega); omega)) | exact (ov_sub rfl rfl (by have hbx := box_at (getD_ok hok (k := k.1) (by omega)) hW hH (j := j.1) (i := i.1) (by omega) (by omega); have hpq := place_lt (w := (pictureOf (s.ss.getD k.1 default)).W) (h := (pictureOf (s.ss.getD k.1 default)).H) hbx.2.2.1 hbx.2.2.2.1; have hpmk := hpm k.1 (by omega); omega)))) | (apply kOCall; (first | (apply kCallF; (first | exact (ov_call rfl (fun w hw => c_ssurfaceRect (s.ss.getD k.1 default) _ w (RInts.keep (hv.rd _ (by omega)) (hw.cells rfl)))) | exact (ov_call rfl (fun w hw => c_sintersect (surfRect (s.ss.getD k.1 default)) ⟨0, 0, s.W, s.H⟩ w)) | exact (ov_call rfl (fun w hw => c_sover _ _ w (hpokk k.1 (by omega) _) (mapTo_pixD (hbp k.1 j.1 i.1) _ _ _))))) | (apply kCallB; (first | exact aBlt | exact aLenR)))) | (apply kOLoad; (first | exact (ov_ldR0 (fun w hw => (rrA hw)) rfl rfl (by rw [mapTo_length]; have hbx := box_at (getD_ok hok (k := k.1) (by omega)) hW hH (j := j.1) (i := i.1) (by omega) (by omega); have hpl := place_lt (w := s.W) (h := s.H) hbx.1 hbx.2.1; omega) rfl) | exact (ov_ldR0 (fun w hw => (rrA hw)) rfl rfl (by have hbx := box_at (getD_ok hok (k := k.1) (by omega)) hW hH (j := j.1) (i := i.1) (by omega) (by omega); have hpq := place_lt (w := (pictureOf (s.ss.getD k.1 default)).W) (h := (pictureOf (s.ss.getD k.1 default)).H) hbx.2.2.1 hbx.2.2.2.1; have hpmk := hpm k.1 (by omega); have := hpn k.1 (by omega); omega) rfl) | exact aLdF | exact aLdR)) | exact ov_fieldAddr rfl | (apply kOIdx; (first | exact (ov_idxR (fun w hw => (rrA hw)) rfl rfl (by rw [mapTo_length]; have hbx := box_at (getD_ok hok (k := k.1) (by omega)) hW hH (j := j.1) (i := i.1) (by omega) (by omega); have hpl := place_lt (w := s.W) (h := s.H) hbx.1 hbx.2.1; omega)) | exact (ov_idxR (fun w hw => (rrA hw)) rfl rfl (by have hbx := box_at (getD_ok hok (k := k.1) (by omega)) hW hH (j := j.1) (i := i.1) (by omega) (by omega); have hpq := place_lt (w := (pictureOf (s.ss.getD k.1 default)).W) (h := (pictureOf (s.ss.getD k.1 default)).H) hbx.2.2.1 hbx.2.2.2.1; have hpmk := hpm k.1 (by omega); have := hpn k.1 (by omega); omega)) | exact aIdx)) | exact aRest | exact aNew | exact (ov_field1 (ft := 31) rfl rfl rfl rfl))) | (refine kN ?_; (first | (refine kCall ?_; (first | (refine kWFn 70 ?_; (refine s_callF (fun u H => OImg u ⟨s.W, s.H, mapTo (paintTo s 0) s.W (s.W * s.H).toNat⟩ H) rfl (fun w hw => (by have h1 := c_snewImage s.W s.H s.Back w; unfold newImage at h1; rw [if_pos ⟨hW, hH, hok.back⟩] at h1; rw [newPaint s]; exact h1)) rfl (fun u H hu => ?_); obtain ⟨d', rfl, hu⟩ := hu; have f1 := hu.form; obtain ⟨_, _, rfl⟩ := f1)) | (refine kWFn 72 ?_; (refine s_callF (fun u H => OImg u (pictureOf (s.ss.getD k.1 default)) H) rfl (fun w hw => c_spictureOf (s.ss.getD k.1 default) _ w (RInts.keep (hv.rd _ (by omega)) (hw.cells rfl))) rfl (fun u H1 hpic => ?_); obtain ⟨d2, rfl, hpic⟩ := hpic; have f1 := hpic.form; obtain ⟨_, _, rfl⟩ := f1)) | apply s_step)) | (refine kStore ?_; (first | (refine s_setI _ rfl rfl (by assumption) gpA (by rw [mapTo_length]; have hbx := box_at (getD_ok hok (k := k.1) (by omega)) hW hH (j := j.1) (i := i.1) (by omega) (by omega); have hpl := place_lt (w := s.W) (h := s.H) hbx.1 hbx.2.1; omega) (fun H' hst => ?_)) | refine s_store1 _ rfl rfl gpA rfl (by rfl) ?_ | refine s_storeS _ rfl rfl gpA rfl rfl (by rfl) ?_ | refine s_storeS _ rfl rfl gpA rfl (ones_img oiA) (by rfl) ?_)) | refine s_boxS rfl rfl (fun b hb => ?_) | refine s_allocS rfl (fun b hb => ?_) | refine s_box1 rfl rfl rfl (fun b hb => ?_) | refine s_alloc1 rfl rfl (fun b hb => ?_) | refine s_buildSlice0 rfl (fun b hb => ?_) | refine s_buildSlice rfl rfl rfl rfl rfl (fun b hb => ?_) | apply s_step)) | (refine kG ?_; (first | refine s_gyes rfl rfl rfl ?_ | refine s_gno rfl rfl rfl rfl rfl ?_ | ((first | refine s_split_d rfl rfl (fun h => ?_) (fun h => ?_) | refine s_split_n rfl rfl (fun h => ?_) (fun h => ?_)) <;> (try (first | contradiction | (exfalso; omega)))) | refine s_split_nb rfl rfl (fun h => ?_) (fun h => ?_) | refine s_split rfl rfl (fun h => ?_) (fun h => ?_))) | (refine kS ?_; (first | refine h_exec rfl ?_ | refine h_take_nil rfl rfl rfl ?_ | refine h_take_pick rfl rfl rfl ?_ | refine h_nil ?_ | refine h_alt ?_ ?_ | apply h_take)) | (refine kBack ?_; (first | refine h_back_last rfl ?_ | refine h_backN rfl subA ?_)) | refine l_then ?_ | (refine kC ?_; (first | (refine kReg 14 ?_; refine c_regionSN (SPlan.take 0 (SPlan.take 1 (SPlan.take 2 (SPlan.take 3 (SPlan.take 4 (SPlan.take 5 (SPlan.take 6 (SPlan.take 7 (SPlan.take 8 (SPlan.take 9 (SPlan.take 10 (SPlan.take 11 (SPlan.take 12 (SPlan.take 13 (SPlan.take 14 (SPlan.take 15 (SPlan.take 16 (SPlan.take 17 (SPlan.take 18 (SPlan.take 19 (SPlan.take 20 (SPlan.take 21 (SPlan.take 22 (SPlan.take 23 (SPlan.take 24 (SPlan.take 25 (SPlan.take 26 (SPlan.take 27 (SPlan.take 28 (SPlan.take 29 (SPlan.take 30 (SPlan.take 31 (SPlan.take 32 (SPlan.take 33 (SPlan.run 34 (SPlan.take 35 (SPlan.run 36 SPlan.done))))))))))))))))))))))))))))))))))))) (some 36) rfl rfl (by decide +kernel) ?_) | (refine kReg 14 ?_; refine c_regionSN (SPlan.take 0 (SPlan.take 1 (SPlan.take 2 (SPlan.take 3 (SPlan.take 4 (SPlan.take 5 (SPlan.take 6 (SPlan.take 7 (SPlan.take 8 (SPlan.take 9 (SPlan.take 10 (SPlan.take 11 (SPlan.take 12 (SPlan.take 13 (SPlan.take 14 (SPlan.take 15 (SPlan.take 16 (SPlan.take 17 (SPlan.take 18 (SPlan.take 19 (SPlan.take 20 (SPlan.take 21 (SPlan.take 22 (SPlan.take 23 (SPlan.take 24 (SPlan.take 25 (SPlan.take 26 (SPlan.take 27 (SPlan.take 28 (SPlan.take 29 (SPlan.take 30 (SPlan.take 31 (SPlan.take 32 (SPlan.take 33 (SPlan.run 34 (SPlan.take 35 (SPlan.run 36 SPlan.done))))))))))))))))))))))))))))))))))))) none rfl rfl (by decide +kernel) ?_) | (refine c_loopV (ι := Nat × SPiece) (fun k => k.1 ≤ s.ss.length ∧ OInts 3 _ (mapTo (paintTo s k.1) s.W (s.W * s.H).toNat) k.2) (fun k => [(4, .int .i64 (k.1 : Int))]) (fun k => [_, k.2, _, _]) (fun k => s.ss.length - k.1) (0, _) ⟨by dsimp only; omega, hu⟩ rfl (fun _ => rfl) ⟨rfl, trivial⟩ (fun w hw => hw) (fun k hk => ?_); obtain ⟨hk1, hk2⟩ := hk) | (refine c_loopV (ι := Nat × SPiece) (fun j => (j.1 : Int) ≤ max 0 ((surfRect (s.ss.getD k.1 default)).inter ⟨0, 0, s.W, s.H⟩).H ∧ OInts 3 _ (mapTo (boxTo ((surfRect (s.ss.getD k.1 default)).inter ⟨0, 0, s.W, s.H⟩) (fun a c => over (pixOf (s.ss.getD k.1 default) a c) (paintTo s k.1 a c)) (paintTo s k.1) j.1 0) s.W (s.W * s.H).toNat) j.2) (fun j => [(8, .int .i64 (((surfRect (s.ss.getD k.1 default)).inter ⟨0, 0, s.W, s.H⟩).Y + (j.1 : Int)))]) (fun j => [_, _, _, _, _, j.2, _, _]) (fun j => ((surfRect (s.ss.getD k.1 default)).inter ⟨0, 0, s.W, s.H⟩).H.toNat - j.1) (0, _) ⟨by dsimp only; omega, by rw [boxTo_zero]; exact hk2⟩ rfl (fun _ => rfl) ⟨slook_to rfl (vint_to (by simp)), trivial⟩ (fun w hw => hw) (fun j hj => ?_); obtain ⟨hj1, hj2⟩ := hj) | (refine c_loopV (ι := Nat × SPiece) (fun i => (i.1 : Int) ≤ max 0 ((surfRect (s.ss.getD k.1 default)).inter ⟨0, 0, s.W, s.H⟩).W ∧ OInts 3 _ (mapTo (boxTo ((surfRect (s.ss.getD k.1 default)).inter ⟨0, 0, s.W, s.H⟩) (fun a c => over (pixOf (s.ss.getD k.1 default) a c) (paintTo s k.1 a c)) (paintTo s k.1) j.1 i.1) s.W (s.W * s.H).toNat) i.2) (fun i => [(9, .int .i64 (((surfRect (s.ss.getD k.1 default)).inter ⟨0, 0, s.W, s.H⟩).X + (i.1 : Int)))]) (fun i => [_, _, _, _, _, i.2, _, _]) (fun i => ((surfRect (s.ss.getD k.1 default)).inter ⟨0, 0, s.W, s.H⟩).W.toNat - i.1) (0, _) ⟨by dsimp only; omega, hj2⟩ rfl (fun _ => rfl) ⟨slook_to rfl (vint_to (by simp)), trivial⟩ (fun w hw => hw) (fun i hi => ?_); obtain ⟨hi1, hi2⟩ := hi) | refine c_seq ?_ | refine c_regionN rfl ?_ | refine c_ret ?_ | (refine kCond ?_; (first | refine c_cond_t rfl ?_ | refine c_cond_f rfl ?_ | ((first | refine c_cond_d rfl (fun h => ?_) (fun h => ?_) | refine c_cond_n rfl (fun h => ?_) (fun h => ?_)) <;> (try (first | contradiction | (exfalso; omega)))) | refine c_cond_nb rfl (fun h => ?_) (fun h => ?_) | refine c_cond rfl (fun h => ?_) (fun h => ?_))) | refine c_block ?_ | refine c_skip ?_ | refine c_exit ?_ | refine c_regionQN rfl rfl (by decide +kernel) ?_)) | apply s_stepQ | (refine kQG ?_; (first | refine s_gyesQ rfl rfl rfl ?_ | refine s_gnoQ rfl rfl rfl rfl rfl ?_ | ((first | refine s_splitQ_d rfl rfl (fun h => ?_) (fun h => ?_) | refine s_splitQ_n rfl rfl (fun h => ?_) (fun h => ?_)) <;> (try (first | contradiction | (exfalso; omega)))) | refine s_splitQ_nb rfl rfl (fun h => ?_) (fun h => ?_) | refine s_splitQ rfl rfl (fun h => ?_) (fun h => ?_))) | refine lQ_then ?_ | refine lQ_ends ?_ | (refine kE ?_; (first | refine e_then_r ?_ | refine e_block_r ?_ | refine e_then_n ?_ | refine e_then_x ?_ | refine e_block_n ?_ | refine e_block_x ?_ | refine e_block_y rfl ?_)) | refine l_ends ?_)
  · have hbk := hib k.1
    rw [box_step (getD_ok hok (k := k.1) (by omega)) hW hH (paintTo s k.1) (by omega) (by omega)] at hst
    exact e_round (i.1 + 1, H') ⟨by dsimp only; omega, hst⟩ ⟨slook_to rfl (vint_to (by push_cast; omega)), (by repeat' first | exact trivial | refine ⟨rfl, ?_⟩)⟩ (fun w hw => hw) (by dsimp only; omega)
  · have hbk := hib k.1
    rw [boxTo_row (by omega)] at hi2
    exact e_round (j.1 + 1, i.2) ⟨by dsimp only; omega, hi2⟩ ⟨slook_to rfl (vint_to (by push_cast; omega)), (by repeat' first | exact trivial | refine ⟨rfl, ?_⟩)⟩ (fun w hw => hw) (by dsimp only; omega)
  · have hbk := hib k.1
    rw [box_done hok (k := k.1) (by omega) (by omega)] at hj2
    exact e_round (k.1 + 1, j.2) ⟨by dsimp only; omega, hj2⟩ ⟨slook_to rfl (vint_to (by push_cast; rfl)), (by repeat' first | exact trivial | refine ⟨rfl, ?_⟩)⟩ (fun w hw => hw.sub (selO_sub [false, false, false, false, true, true, true, true] _ _ rfl)) (by dsimp only; omega)
  · have e : paintTo s k.1 = paintF s := by funext x y; rw [show k.1 = s.ss.length by omega]; exact paintTo_all s x y
    rw [e] at hk2
    exact s_leaveSF rfl rfl rfl fwA (fun w hw => ⟨_, _, rfl, ⟨_, rfl, hk2⟩, hw.toFresh (H := k.2) gpA⟩)
end Go.Proofs.YtpcammhmgleonaaGreat
namespace Go.Proofs.YtpcammhmgleonaaGreat
open Go Sx
attribute [local irreducible] Exit.then Exit.inBlock bodyPost oriented scaled pictureOf rawPicture painted
theorem c_spaint (s : DScene) (v : Value) (W : World) (hv : RS eSurf W v s.ss) : SYieldsF Tryz.prog 13 #[vScene s v] (fun u H => OImg u (paint s) H) W := by
  by_cases hok : s.ok
  · have hp : paint s = painted s := by unfold paint; rw [if_pos hok]
    rw [hp]
    (first | apply SYields.mk | apply SYieldsF.mk | skip); refine s_enter Tryz.func13 rfl Tryz.ntmps13 rfl ?_
    repeat' (first | exact rfl | (apply kO; (first | exact ov_pure rfl | (apply kOBin; (first | exact aBin)) | (apply kOCall; (first | (apply kCallF; (first | exact (ov_call rfl (fun w hw => c_ssceneOk _ _ w (hv.keep (hw.cells rfl)))))) | (apply kCallB; (first | exact aBlt | exact aLenR)))) | (apply kOLoad; (first | exact aLdF | exact aLdR)) | exact ov_fieldAddr rfl | (apply kOIdx; (first | exact aIdx)) | exact aRest | exact aNew | exact (ov_field1 (ft := 31) rfl rfl rfl rfl))) | (refine kN ?_; (first | (refine kCall ?_; (first | (refine kWFn 37 ?_; (refine s_callF (fun u H => OImg u (painted s) H) rfl (fun w hw => c_l11Paint s _ w hok (hv.keep (hw.cells rfl))) rfl (fun u H hu => ?_); obtain ⟨d', rfl, hu⟩ := hu; have f1 := hu.form; obtain ⟨_, _, rfl⟩ := f1)) | apply s_step)) | (refine kStore ?_; (first | refine s_store1 _ rfl rfl gpA rfl (by rfl) ?_ | refine s_storeS _ rfl rfl gpA rfl rfl (by rfl) ?_ | refine s_storeS _ rfl rfl gpA rfl (ones_img oiA) (by rfl) ?_)) | refine s_boxS rfl rfl (fun b hb => ?_) | refine s_allocS rfl (fun b hb => ?_) | refine s_box1 rfl rfl rfl (fun b hb => ?_) | refine s_alloc1 rfl rfl (fun b hb => ?_) | refine s_buildSlice0 rfl (fun b hb => ?_) | refine s_buildSlice rfl rfl rfl rfl rfl (fun b hb => ?_) | apply s_step)) | (refine kG ?_; (first | refine s_gyes rfl rfl rfl ?_ | refine s_gno rfl rfl rfl rfl rfl ?_ | ((first | refine s_split_d rfl rfl (fun h => ?_) (fun h => ?_) | refine s_split_n rfl rfl (fun h => ?_) (fun h => ?_)) <;> (try (first | contradiction | (exfalso; omega) | (exfalso; exact absurd hok (by assumption))))) | refine s_split_nb rfl rfl (fun h => ?_) (fun h => ?_) | refine s_split rfl rfl (fun h => ?_) (fun h => ?_))) | refine l_then ?_ | (refine kC ?_; (first | refine c_seq ?_ | refine c_regionN rfl ?_ | refine c_ret ?_ | (refine kCond ?_; (first | refine c_cond_t rfl ?_ | refine c_cond_f rfl ?_ | ((first | refine c_cond_d rfl (fun h => ?_) (fun h => ?_) | refine c_cond_n rfl (fun h => ?_) (fun h => ?_)) <;> (try (first | contradiction | (exfalso; omega) | (exfalso; exact absurd hok (by assumption))))) | refine c_cond_nb rfl (fun h => ?_) (fun h => ?_) | refine c_cond rfl (fun h => ?_) (fun h => ?_))) | refine c_block ?_ | refine c_skip ?_ | refine c_exit ?_ | refine c_regionQN rfl rfl (by decide +kernel) ?_)) | apply s_stepQ | (refine kQG ?_; (first | refine s_gyesQ rfl rfl rfl ?_ | refine s_gnoQ rfl rfl rfl rfl rfl ?_ | ((first | refine s_splitQ_d rfl rfl (fun h => ?_) (fun h => ?_) | refine s_splitQ_n rfl rfl (fun h => ?_) (fun h => ?_)) <;> (try (first | contradiction | (exfalso; omega) | (exfalso; exact absurd hok (by assumption))))) | refine s_splitQ_nb rfl rfl (fun h => ?_) (fun h => ?_) | refine s_splitQ rfl rfl (fun h => ?_) (fun h => ?_))) | refine lQ_then ?_ | refine lQ_ends ?_ | (refine kE ?_; (first | refine e_then_r ?_ | refine e_block_r ?_ | refine e_then_n ?_ | refine e_then_x ?_ | refine e_block_n ?_ | refine e_block_x ?_ | refine e_block_y rfl ?_)) | refine l_ends ?_)
    all_goals (refine kE ?_; refine s_leaveSF rfl rfl rfl fwA (fun w hw => ?_))
    all_goals exact ⟨_, _, rfl, ⟨_, rfl, hu⟩, hw.toFresh (H := H) gpA⟩
  · have hp : paint s = DImg.zero := by unfold paint; rw [if_neg hok]
    rw [hp]
    (first | apply SYields.mk | apply SYieldsF.mk | skip); refine s_enter Tryz.func13 rfl Tryz.ntmps13 rfl ?_
    repeat' (first | exact rfl | (apply kO; (first | exact ov_pure rfl | (apply kOBin; (first | exact aBin)) | (apply kOCall; (first | (apply kCallF; (first | exact (ov_call rfl (fun w hw => c_ssceneOk _ _ w (hv.keep (hw.cells rfl)))))) | (apply kCallB; (first | exact aBlt | exact aLenR)))) | (apply kOLoad; (first | exact aLdF | exact aLdR)) | exact ov_fieldAddr rfl | (apply kOIdx; (first | exact aIdx)) | exact aRest | exact aNew | exact (ov_field1 (ft := 31) rfl rfl rfl rfl))) | (refine kN ?_; (first | (refine kStore ?_; (first | refine s_store1 _ rfl rfl gpA rfl (by rfl) ?_ | refine s_storeS _ rfl rfl gpA rfl rfl (by rfl) ?_ | refine s_storeS _ rfl rfl gpA rfl (ones_img oiA) (by rfl) ?_)) | refine s_boxS rfl rfl (fun b hb => ?_) | refine s_allocS rfl (fun b hb => ?_) | refine s_box1 rfl rfl rfl (fun b hb => ?_) | refine s_alloc1 rfl rfl (fun b hb => ?_) | refine s_buildSlice0 rfl (fun b hb => ?_) | refine s_buildSlice rfl rfl rfl rfl rfl (fun b hb => ?_) | apply s_step)) | (refine kG ?_; (first | refine s_gyes rfl rfl rfl ?_ | refine s_gno rfl rfl rfl rfl rfl ?_ | ((first | refine s_split_d rfl rfl (fun h => ?_) (fun h => ?_) | refine s_split_n rfl rfl (fun h => ?_) (fun h => ?_)) <;> (try (first | contradiction | (exfalso; omega) | (exfalso; exact absurd (by assumption) hok)))) | refine s_split_nb rfl rfl (fun h => ?_) (fun h => ?_) | refine s_split rfl rfl (fun h => ?_) (fun h => ?_))) | refine l_then ?_ | (refine kC ?_; (first | refine c_seq ?_ | refine c_regionN rfl ?_ | refine c_ret ?_ | (refine kCond ?_; (first | refine c_cond_t rfl ?_ | refine c_cond_f rfl ?_ | ((first | refine c_cond_d rfl (fun h => ?_) (fun h => ?_) | refine c_cond_n rfl (fun h => ?_) (fun h => ?_)) <;> (try (first | contradiction | (exfalso; omega) | (exfalso; exact absurd (by assumption) hok)))) | refine c_cond_nb rfl (fun h => ?_) (fun h => ?_) | refine c_cond rfl (fun h => ?_) (fun h => ?_))) | refine c_block ?_ | refine c_skip ?_ | refine c_exit ?_ | refine c_regionQN rfl rfl (by decide +kernel) ?_)) | apply s_stepQ | (refine kQG ?_; (first | refine s_gyesQ rfl rfl rfl ?_ | refine s_gnoQ rfl rfl rfl rfl rfl ?_ | ((first | refine s_splitQ_d rfl rfl (fun h => ?_) (fun h => ?_) | refine s_splitQ_n rfl rfl (fun h => ?_) (fun h => ?_)) <;> (try (first | contradiction | (exfalso; omega) | (exfalso; exact absurd (by assumption) hok)))) | refine s_splitQ_nb rfl rfl (fun h => ?_) (fun h => ?_) | refine s_splitQ rfl rfl (fun h => ?_) (fun h => ?_))) | refine lQ_then ?_ | refine lQ_ends ?_ | (refine kE ?_; (first | refine e_then_r ?_ | refine e_block_r ?_ | refine e_then_n ?_ | refine e_then_x ?_ | refine e_block_n ?_ | refine e_block_x ?_ | refine e_block_y rfl ?_)) | refine l_ends ?_)
    all_goals (refine kE ?_; refine s_leaveSF rfl rfl rfl fwA (fun w hw => ?_))
    all_goals exact ⟨_, [], rfl, ⟨_, rfl, OInts.nil _⟩, hw.toFresh0⟩
end Go.Proofs.YtpcammhmgleonaaGreat
namespace Go.Proofs.YtpcammhmgleonaaGreat
open Go Sx
attribute [local irreducible] Exit.then Exit.inBlock bodyPost OInts OElems DScene.ok tcells
set_option maxHeartbeats 4000000 in
theorem c_l10Edits (cb : Nat) (bs : Value) (l : List Int) (W : World) (hcd : CDraw cb bs l W) : SDraw Tryz.prog 20 #[.pointer (some ⟨cb, 0, none⟩)] cb bs l someEdits W := by
  refine ⟨fun ci ch hci hH hn => SYieldsG.mk (s_enterM Tryz.func20 rfl Tryz.ntmps20 rfl hH hn ?_)⟩
  repeat' (first | exact rfl | (apply kO; (first | exact ov_pure rfl | (apply kOBin; (first | exact aBin)) | (apply kOCall; (first | (apply kCallB; (first | exact aBlt | exact aLenR)))) | (apply kOLoad; (first | exact aLdF | exact aLdR)) | exact ov_fieldAddr rfl | (apply kOIdx; (first | exact aIdx)) | exact aRest | exact aNew | exact (ov_field1 (ft := 31) rfl rfl rfl rfl))) | (refine kN ?_; (first | (refine kCall ?_; (first | (refine kWFn 19 ?_; (refine s_drawV _ rfl gpA (by omega) (fun w hw => c_l01Below _ cb bs l w (by first | exact keepC hcd rfl hw | exact freshC (by assumption) hw gpA) (by omega)) rfl (fun v ci ch hci hu => ?_); obtain ⟨x, rfl, hx⟩ := hu)) | (refine kWFn 43 ?_; (refine s_draw (l := l) _ rfl gpA (by omega) (fun w hw => c_l10Edit cb bs l w (by first | exact keepC hcd rfl hw | exact freshC (by assumption) hw gpA)) rfl (fun u ci ch F hci hu => ?_); obtain ⟨ed, hed, d', rfl, hu⟩ := hu; have f1 := hu.form; obtain ⟨_, _, rfl⟩ := f1)) | (refine kWApp ?_; (refine s_appendE _ _ _ (el := eEdit) (a := ed) rfl rfl hj3 gpA gpA (show eEdit.own _ _ _ from hu) gpA rfl rfl (eEdit_ones (OInts.one hu)) (by rw [scells_eq]; rfl) (by decide) (by omega) (by decide) rfl (fun v4 H4 hv4 => ?_))) | apply s_step)) | (refine kStore ?_; (first | refine s_store1 _ rfl rfl gpA rfl (by rfl) ?_ | refine s_storeS _ rfl rfl gpA rfl rfl (by rfl) ?_ | refine s_storeS _ rfl rfl gpA rfl (ones_img oiA) (by rfl) ?_)) | refine s_boxS rfl rfl (fun b hb => ?_) | refine s_allocS rfl (fun b hb => ?_) | refine s_box1 rfl rfl rfl (fun b hb => ?_) | refine s_alloc1 rfl rfl (fun b hb => ?_) | refine s_buildSlice0 rfl (fun b hb => ?_) | refine s_buildSlice rfl rfl rfl rfl rfl (fun b hb => ?_) | apply s_step)) | (refine kG ?_; (first | refine s_gyes rfl rfl rfl ?_ | refine s_gno rfl rfl rfl rfl rfl ?_ | ((first | refine s_split_d rfl rfl (fun h => ?_) (fun h => ?_) | refine s_split_n rfl rfl (fun h => ?_) (fun h => ?_)) <;> (try (first | contradiction | (exfalso; omega)))) | refine s_split_nb rfl rfl (fun h => ?_) (fun h => ?_) | refine s_split rfl rfl (fun h => ?_) (fun h => ?_))) | refine l_then ?_ | (refine kC ?_; (first | (refine kLoop 3 ?_; refine c_loopV (ι := Nat × List DEdit × Value × SPiece × Int × Int) (fun j => (j.1 ≤ 4 ∧ j.2.1.length + j.1 ≤ 4) ∧ (∀ e ∈ j.2.1, e.buf.data.length ≤ 256) ∧ OElems eEdit 66 j.2.2.1 j.2.1 j.2.2.2.1 ∧ 0 ≤ j.2.2.2.2.1 ∧ j.2.2.2.2.1 ≤ l.length) (fun j => [(3, j.2.2.1), (4, .int .i64 (j.1 : Int))]) (fun j => [j.2.2.2.1, curP bs j.2.2.2.2.1 j.2.2.2.2.2 cb]) (fun j => j.1) (x.toNat, [], _, _, _, _) ⟨⟨by dsimp only; omega, by dsimp only; simp; omega⟩, (fun e he => (by cases he)), OElems.bare _, hci⟩ rfl (fun _ => rfl) ⟨rfl, slook_to rfl (vint_to (by dsimp only; omega)), trivial⟩ (fun w hw => hw) (fun j hj => ?_); obtain ⟨⟨hj1, hj5⟩, hj2, hj3, hj4⟩ := hj) | refine c_seq ?_ | refine c_regionN rfl ?_ | refine c_ret ?_ | (refine kCond ?_; (first | refine c_cond_t rfl ?_ | refine c_cond_f rfl ?_ | ((first | refine c_cond_d rfl (fun h => ?_) (fun h => ?_) | refine c_cond_n rfl (fun h => ?_) (fun h => ?_)) <;> (try (first | contradiction | (exfalso; omega)))) | refine c_cond_nb rfl (fun h => ?_) (fun h => ?_) | refine c_cond rfl (fun h => ?_) (fun h => ?_))) | refine c_block ?_ | refine c_skip ?_ | refine c_exit ?_ | refine c_regionQN rfl rfl (by decide +kernel) ?_)) | apply s_stepQ | (refine kQG ?_; (first | refine s_gyesQ rfl rfl rfl ?_ | refine s_gnoQ rfl rfl rfl rfl rfl ?_ | ((first | refine s_splitQ_d rfl rfl (fun h => ?_) (fun h => ?_) | refine s_splitQ_n rfl rfl (fun h => ?_) (fun h => ?_)) <;> (try (first | contradiction | (exfalso; omega)))) | refine s_splitQ_nb rfl rfl (fun h => ?_) (fun h => ?_) | refine s_splitQ rfl rfl (fun h => ?_) (fun h => ?_))) | refine lQ_then ?_ | refine lQ_ends ?_ | (refine kE ?_; (first | refine e_then_r ?_ | refine e_block_r ?_ | refine e_then_n ?_ | refine e_then_x ?_ | refine e_block_n ?_ | refine e_block_x ?_ | refine e_block_y rfl ?_)) | refine l_ends ?_)
  · refine e_round (j.1 - 1, j.2.1 ++ [ed], _, H4, ci, ch) ⟨⟨by dsimp only; omega, by dsimp only; rw [List.length_append]; simp; omega⟩, fun e he => ?_, hv4, hci⟩ ⟨rfl, slook_to rfl (vint_to (by dsimp only; omega)), (by repeat' first | exact trivial | refine ⟨rfl, ?_⟩)⟩ (fun w hw => hw.picks (by (repeat' first | exact Picks.nil | exact gp_hd | apply gp_tl | apply Picks.cons); done) (by rfl)) (by dsimp only; omega)
    rcases List.mem_append.1 he with he | he
    · exact hj2 e he
    · rw [List.mem_singleton] at he; subst he; exact hed
  · exact s_leave1 rfl rfl (fun w hw => ⟨_, curP bs j.2.2.2.2.1 j.2.2.2.2.2 cb, j.2.2.2.1, rfl, ⟨⟨j.2.2.2.2.1, j.2.2.2.2.2, rfl, hj4⟩, ⟨j.2.1, by have := short_edits hj2; have := Nat.mul_le_mul_right 257 (show j.2.1.length ≤ 4 by omega); omega, hj3⟩⟩, hw.picks (by (repeat' first | exact Picks.nil | exact gp_hd | apply gp_tl | apply Picks.cons); done) (by rfl)⟩)
def someSE (u : Value) (H : SPiece) : Prop := ∃ (s : DScene) (es : List DEdit) (vs ve : Value) (Hs He : SPiece), u = .tuple #[vScene s vs, ve] ∧ s.ok ∧ editsLen es ≤ 5000 ∧ OElems eSurf 88 vs s.ss Hs ∧ OElems eEdit 66 ve es He ∧ H = [Hs, He].flatten
theorem w_two {P : Program} {n : Nat} {lo : SMut} {s : World} {ops : Array Oper} {Q : Exit → Act → World → Prop} {E : SEnv} {L : SHeap} {l : List Oper} {A B : SPiece} (k : WPL P n lo s ops Q l E (A :: B :: L)) : WPL P n lo s ops Q l E ([A, B].flatten :: L) := w_perm (by simp) k
theorem c_editsSome (s : DScene) (l : List DEdit) (v vl : Value) (W : World) (hs : s.ok) (hv : RS eSurf W v s.ss) (hvl : RS eEdit W vl l) (hel : editsLen l ≤ 5000) :
    SYieldsF Tryz.prog 8 #[vScene s v, vl] (fun u H => ∃ (t : DScene) (n : Int) (vt : Value), u = .tuple #[vScene t vt, .int .i64 n] ∧ t = doEdits s l ∧ t.ok ∧ sameSize s t ∧ OElems eSurf 88 vt t.ss H) W :=
  (c_sdoEdits s l v vl W hv hvl (scene_len hs) (by omega)).imp fun u H h => by
    obtain ⟨vt, rfl, h⟩ := h
    have hz := doEdits_size s l
    exact ⟨_, _, _, rfl, rfl, doEdits_ok l hs, ⟨hz.1.symm, hz.2.symm⟩, h⟩
theorem paint_ok {s : DScene} (h : s.ok) : paint s = painted s := by unfold paint; rw [if_pos h]
theorem c_spaintOk (s : DScene) (v : Value) (W : World) (hs : s.ok) (hv : RS eSurf W v s.ss) : SYieldsF Tryz.prog 13 #[vScene s v] (fun u H => OImg u (painted s) H) W := by
  have h9 := c_spaint s v W hv
  rw [paint_ok hs] at h9
  exact h9
end Go.Proofs.YtpcammhmgleonaaGreat
namespace Sx
structure DChain where
  bufs : List DImg
  ages : List Int
  dams : List (List DRect)
  scene : DScene
deriving DecidableEq
def DChain.age (c : DChain) (k : Nat) : Int := c.ages.getD k 0
def DChain.buf (c : DChain) (k : Nat) : DImg := c.bufs.getD k DImg.zero
def DChain.dam (c : DChain) (k : Nat) : List DRect := c.dams.getD k []
def DChain.bufOk (c : DChain) (k : Nat) : Prop :=
  (c.buf k).ok ∧ (c.buf k).W = c.scene.W ∧ (c.buf k).H = c.scene.H ∧ (0 ≤ c.age k ∧ c.age k ≤ 3 ∧ c.age k ≤ c.dams.length + 1) ∧ ∀ i, i < k → c.age i = c.age k → c.age k = 0
instance (c : DChain) (k : Nat) : Decidable (c.bufOk k) := by unfold DChain.bufOk; infer_instance
def DChain.ok (c : DChain) : Prop :=
  c.scene.ok ∧ (1 ≤ c.bufs.length ∧ c.bufs.length ≤ 3) ∧ c.ages.length = c.bufs.length ∧ c.dams.length ≤ 3 ∧ (∀ k, k < c.bufs.length → c.bufOk k) ∧ ∀ k, k < c.dams.length → regionOk (c.dam k)
instance (c : DChain) : Decidable c.ok := by unfold DChain.ok; infer_instance
def nbFrom (l : List Int) : Nat → Nat → Nat → Nat
  | 0, best, _ => best
  | f + 1, best, k => if k < l.length then (if l.getD k 0 = 0 then k else nbFrom l f (if l.getD best 0 < l.getD k 0 then k else best) (k + 1)) else best
def nextB (c : DChain) : Nat := nbFrom c.ages c.ages.length 0 0
def nextBuffer (c : DChain) : Int := if c.ok then (nextB c : Int) else -1
theorem nbFrom_lt (l : List Int) : ∀ f best k, best < l.length → nbFrom l f best k < l.length
  | 0, best, k, h => h
  | f + 1, best, k, h => by
    unfold nbFrom
    split
    · split
      · assumption
      · apply nbFrom_lt
        split <;> assumption
    · exact h
theorem nextB_lt {c : DChain} (h : c.ok) : nextB c < c.bufs.length := by
  rw [← h.2.2.1]
  exact nbFrom_lt _ _ _ _ (by rw [h.2.2.1]; exact h.2.1.1)
def staleG (c : DChain) (k : Nat) (s : DScene) : Grid := fun y x => points (damageOf c.scene s) y x || (List.range (c.age k - 1).toNat).any (fun i => points (c.dam i) y x)
def staleR (c : DChain) (k : Nat) (s : DScene) : List DRect := if c.age k = 0 then canon (scrG s) else canon (staleG c k s)
def staleRegion (c : DChain) (k : Int) (s : DScene) : List DRect := if c.ok ∧ s.ok ∧ sameSize s c.scene ∧ 0 ≤ k ∧ k < c.bufs.length then staleR c k.toNat s else []
def presentable (c : DChain) (s : DScene) : Prop := c.ok ∧ s.ok ∧ sameSize s c.scene
instance (c : DChain) (s : DScene) : Decidable (presentable c s) := by unfold presentable; infer_instance
def newDams (c : DChain) (s : DScene) : List (List DRect) := (damageOf c.scene s :: c.dams).take 3
def newAge (c : DChain) (s : DScene) (i : Nat) : Int :=
  let a := if i = nextB c then 1 else if c.age i = 0 then 0 else c.age i + 1
  if 3 < a ∨ ((newDams c s).length : Int) + 1 < a then 0 else a
def presented (c : DChain) (s : DScene) : DChain :=
  ⟨c.bufs.set (nextB c) (paintInto (c.buf (nextB c)) s (staleR c (nextB c) s)), (List.range c.ages.length).map (newAge c s), newDams c s, s⟩
def shows (c : DChain) : Prop := ∀ k, k < c.bufs.length → c.age k ≠ 0 → ∀ y x : Nat, scrG c.scene y x = true → (∀ i : Nat, (i : Int) < c.age k - 1 → points (c.dam i) y x = false) → (c.buf k).at x y = paintF c.scene x y
theorem newDams_len (c : DChain) (s : DScene) : (newDams c s).length = min 3 (c.dams.length + 1) := by simp [newDams]; omega
theorem newDams_zero (c : DChain) (s : DScene) : (newDams c s).getD 0 [] = damageOf c.scene s := rfl
theorem newDams_succ (c : DChain) (s : DScene) {i : Nat} (h : i < 2) : (newDams c s).getD (i + 1) [] = c.dam i := by
  unfold newDams DChain.dam
  rw [List.getD_eq_getElem?_getD, List.getD_eq_getElem?_getD, List.getElem?_take, if_pos (by omega), List.getElem?_cons_succ]
theorem scr_size {s t : DScene} (h : sameSize s t) : scrG s = scrG t := by unfold scrG scrR; rw [h.1, h.2]
theorem staleR_ok (c : DChain) (k : Nat) (s : DScene) : regionOk (staleR c k s) := by unfold staleR; split <;> exact regionOk_canon _
theorem painted_next {c : DChain} {s : DScene} (h : presentable c s) (hs : shows c) : paintInto (c.buf (nextB c)) s (staleR c (nextB c) s) = painted s := by
  obtain ⟨hc, hso, hsz⟩ := h
  have hlt := nextB_lt hc
  have hb := hc.2.2.2.2.1 _ hlt
  unfold paintInto
  rw [if_pos hso]
  have hq := painted_ok hso
  have hw : (c.buf (nextB c)).W = (painted s).W := hb.2.1.trans hsz.1.symm
  have hh : (c.buf (nextB c)).H = (painted s).H := hb.2.2.1.trans hsz.2.symm
  have hcs := copyRegion_size (c.buf (nextB c)) (painted s) (staleR c (nextB c) s)
  refine DImg.ext' (copyRegion_ok hb.1 _) hq (by rw [hcs.1, hw]) (by rw [hcs.2, hh]) (fun x y h1 h2 h3 h4 => ?_)
  rw [hcs.1] at h2
  rw [hcs.2] at h4
  rw [copyRegion_at hb.1 hq (staleR_ok _ _ _) hw hh ⟨h1, h2⟩ ⟨h3, h4⟩]
  split
  · rfl
  · rename_i hd
    have h2' : x < s.W := by rw [hw] at h2; exact h2
    have h4' : y < s.H := by rw [hh] at h4; exact h4
    have hscr : scrG s y.toNat x.toNat = true := (scrG_iff hso _ _).2 ⟨by omega, by omega⟩
    have hl := scr_lt hso hscr
    unfold staleR at hd
    by_cases ha : c.age (nextB c) = 0
    · rw [if_pos ha, points_canon _ _ _ hl.1 hl.2] at hd
      exact absurd hscr hd
    · rw [if_neg ha, points_canon _ _ _ hl.1 hl.2] at hd
      unfold staleG at hd
      simp only [Bool.or_eq_true, not_or, List.any_eq_true, List.mem_range, not_exists, not_and] at hd
      have hsz' : sameSize c.scene s := ⟨hsz.1.symm, hsz.2.symm⟩
      have e1 := damage_same hc.1 hso hsz' hscr (by simpa using hd.1)
      have e2 := hs _ hlt ha y.toNat x.toNat (by rw [← scr_size hsz]; exact hscr) (fun i hi => by simpa using hd.2 i (by omega))
      rw [show ((x.toNat : Nat) : Int) = x by omega, show ((y.toNat : Nat) : Int) = y by omega] at e1 e2
      have e3 : (painted s).at x y = paintF s x y := fimg_at (paintF s) (w := s.W) (h := s.H) ⟨h1, h2'⟩ ⟨h3, h4'⟩
      rw [e2, e1, e3]
theorem presented_age {c : DChain} {s : DScene} {k : Nat} (hk : k < c.ages.length) : (presented c s).age k = newAge c s k := by
  unfold DChain.age presented
  rw [List.getD_eq_getElem?_getD, List.getElem?_map, List.getElem?_range hk]; rfl
theorem presented_buf {c : DChain} {s : DScene} {k : Nat} (hk : k < c.bufs.length) : (presented c s).buf k = if k = nextB c then paintInto (c.buf (nextB c)) s (staleR c (nextB c) s) else c.buf k := by
  unfold DChain.buf presented
  rw [List.getD_eq_getElem?_getD, List.getElem?_set]
  by_cases e : nextB c = k
  · subst e
    rw [if_pos rfl, if_pos hk, if_pos rfl]; rfl
  · rw [if_neg e, if_neg (fun h => e h.symm), List.getD_eq_getElem?_getD]
theorem presented_shows {c : DChain} {s : DScene} (h : presentable c s) (hs : shows c) : shows (presented c s) := by
  intro k hk ha y x hscr hd
  have hc := h.1
  have hk' : k < c.bufs.length := by simpa [presented] using hk
  have hscr' : scrG s y x = true := hscr
  have hxy := (scrG_iff h.2.1 _ _).1 hscr'
  rw [presented_buf hk']
  rw [presented_age (by rw [hc.2.2.1]; exact hk')] at ha hd
  show _ = paintF s x y
  by_cases e : k = nextB c
  · rw [if_pos e, painted_next h hs]
    exact fimg_at (paintF s) (w := s.W) (h := s.H) ⟨by omega, hxy.1⟩ ⟨by omega, hxy.2⟩
  · rw [if_neg e]
    unfold newAge at ha hd
    simp only [if_neg e] at ha hd
    by_cases h0 : c.age k = 0
    · simp [h0] at ha
    · simp only [if_neg h0] at ha hd
      by_cases hbig : 3 < c.age k + 1 ∨ ((newDams c s).length : Int) + 1 < c.age k + 1
      · rw [if_pos hbig] at ha; exact absurd rfl ha
      · rw [if_neg hbig] at hd
        have hbk := (hc.2.2.2.2.1 k hk').2.2.2.1
        have e0 := hd 0 (by omega)
        have hsz' : sameSize c.scene s := ⟨h.2.2.1.symm, h.2.2.2.symm⟩
        have e1 := damage_same hc.1 h.2.1 hsz' hscr' e0
        rw [← e1]
        refine hs k hk' h0 y x (by rw [← scr_size h.2.2]; exact hscr') (fun i hi => ?_)
        have := hd (i + 1) (by push_cast; omega)
        have e2 : (presented c s).dam (i + 1) = c.dam i := newDams_succ c s (by omega)
        rw [e2] at this; exact this
end Sx
namespace Sx
def hitG (s : DSurf) (g : Grid) (k : Nat) : Grid := fun y x => g y x && decide (hitTo s k x y)
end Sx
namespace Sx
def bothR (to fr : DImg) : DRect := ⟨0, 0, min to.W fr.W, min to.H fr.H⟩
def copyTo (to fr : DImg) (g : Grid) (j i : Nat) : Int → Int → Int := boxTo (bothR to fr) (copyF to fr g) to.at j i
theorem copyTo_zero (to fr : DImg) (g : Grid) (ht : to.ok) : mapTo (copyTo to fr g 0 0) to.W (to.W * to.H).toNat = to.data := by
  unfold copyTo; rw [boxTo_zero]; exact ht.self.symm
theorem copyTo_row {to fr : DImg} {g : Grid} {j i : Nat} (hi : (i : Int) = min to.W fr.W) : copyTo to fr g j i = copyTo to fr g (j + 1) 0 := by
  unfold copyTo; exact boxTo_row (by unfold bothR; dsimp only; omega)
theorem copyTo_yes {to fr : DImg} {g : Grid} (ht : to.ok) (hf : fr.ok) {j i : Nat} (hj : (j : Int) < min to.H fr.H) (hi : (i : Int) < min to.W fr.W) (hg : g j i = true) :
    (mapTo (copyTo to fr g j i) to.W (to.W * to.H).toNat).set ((j : Int) * to.W + i).toNat (fr.data.getD ((j : Int) * fr.W + i).toNat 0) = mapTo (copyTo to fr g j (i + 1)) to.W (to.W * to.H).toNat := by
  rw [mapTo_set _ (w := to.W) (h := to.H) (x := (i : Int)) (y := (j : Int)) (by omega) (by omega)]
  congr 1
  unfold copyTo
  rw [boxTo_next (by unfold bothR; dsimp only; omega)]
  unfold bothR
  dsimp only
  funext x y
  rw [Int.zero_add, Int.zero_add]
  have e : copyF to fr g (i : Int) (j : Int) = fr.data.getD ((j : Int) * fr.W + i).toNat 0 := by
    unfold copyF; rw [if_pos ⟨hg, by omega, by omega⟩]; rfl
  rw [e]
theorem copyTo_no {to fr : DImg} {g : Grid} {j i : Nat} (hi : (i : Int) < min to.W fr.W) (hg : ¬ g j i = true) : copyTo to fr g j (i + 1) = copyTo to fr g j i := by
  unfold copyTo
  rw [boxTo_next (by unfold bothR; dsimp only; omega)]
  funext x y
  split
  · rename_i h
    obtain ⟨rfl, rfl⟩ := h
    rw [boxTo_here]
    unfold bothR
    dsimp only
    rw [Int.zero_add, Int.zero_add]
    unfold copyF
    rw [if_neg (fun e => hg e.1)]
  · rfl
theorem copyTo_all {to fr : DImg} {r : List DRect} (ht : to.ok) (hf : fr.ok) (hr : regionOk r) {j : Nat} (hj : (j : Int) = min to.H fr.H) : (⟨to.W, to.H, mapTo (copyTo to fr (points r) j 0) to.W (to.W * to.H).toNat⟩ : DImg) = copyRegion to fr r := by
  unfold copyRegion
  rw [if_pos ⟨ht, hf, hr⟩]
  unfold fimg
  congr 1
  refine mapTo_congr ht.1.1 (fun x y h1 h2 h3 h4 => ?_)
  unfold copyTo
  rw [boxTo_all (by unfold bothR; dsimp only; exact hj)]
  unfold bothR
  dsimp only
  split
  · rfl
  · unfold copyF
    rw [if_neg (by omega)]
def pvF (s : DScene) (n : Nat) (x y : Int) : Int := pvTo s n x.toNat y.toNat
def pvN (s : DScene) : Nat → Int
  | 0 => (card (((rectG (scrR s)).without (coverG s 0))) : Int)
  | n + 1 => pvN s n + (card (seenG s n) : Int)
def paintVisible (s : DScene) : DImg := if s.ok then fimg (pvF s s.ss.length) s.W s.H else DImg.zero
def visibleCost (s : DScene) : Int := if s.ok then pvN s s.ss.length else 0
def seeTo (s : DScene) (k : Nat) (j i : Nat) : Int → Int → Int := boxTo (scrR s) (fun x y => pvF s (k + 1) x y) (pvF s k) j i
theorem areaOf_canon (g : Grid) : areaOf (canon g) = card g := by unfold areaOf; rw [if_pos (regionOk_canon g), area_canon]
end Sx
namespace Sx
theorem newAge_bd {c : DChain} {s : DScene} (hc : c.ok) {k : Nat} (hk : k < c.bufs.length) : 0 ≤ newAge c s k ∧ newAge c s k ≤ 3 ∧ newAge c s k ≤ ((newDams c s).length : Int) + 1 := by
  have hb := (hc.2.2.2.2.1 k hk).2.2.2.1
  unfold newAge
  dsimp only
  by_cases e : k = nextB c
  · simp only [if_pos e]; rw [if_neg (by omega)]; omega
  · simp only [if_neg e]
    by_cases h0 : c.age k = 0
    · simp only [if_pos h0]; rw [if_neg (by omega)]; omega
    · simp only [if_neg h0]; split <;> omega
theorem newAge_next {c : DChain} {s : DScene} : newAge c s (nextB c) = 1 := by
  unfold newAge
  dsimp only
  rw [if_pos rfl, if_neg (by omega)]
theorem newAge_other {c : DChain} {s : DScene} {k : Nat} (h : k ≠ nextB c) (hn : newAge c s k ≠ 0) : newAge c s k = c.age k + 1 ∧ c.age k ≠ 0 := by
  unfold newAge at hn ⊢
  dsimp only at hn ⊢
  rw [if_neg h] at hn ⊢
  by_cases h0 : c.age k = 0
  · rw [if_pos h0] at hn; simp at hn
  · rw [if_neg h0] at hn ⊢
    split at hn
    · exact absurd rfl hn
    · rename_i hh; rw [if_neg hh]; exact ⟨rfl, h0⟩
theorem presented_ok {c : DChain} {s : DScene} (h : presentable c s) : (presented c s).ok := by
  have hc := h.1
  have hlen : (presented c s).bufs.length = c.bufs.length := by simp [presented]
  have hdl : (presented c s).dams.length = (newDams c s).length := rfl
  refine ⟨h.2.1, by rw [hlen]; exact hc.2.1, by rw [hlen, ← hc.2.2.1]; simp [presented], by rw [hdl, newDams_len]; omega, fun k hk => ?_, fun k hk => ?_⟩
  · rw [hlen] at hk
    have hk2 : k < c.ages.length := by rw [hc.2.2.1]; exact hk
    have hb := hc.2.2.2.2.1 k hk
    have hbd := newAge_bd (s := s) hc hk
    refine ⟨?_, ?_, ?_, ?_, fun i hi e => ?_⟩
    · rw [presented_buf hk]
      split
      · have h1 := (hc.2.2.2.2.1 _ (nextB_lt hc)).1
        unfold paintInto; rw [if_pos h.2.1]; exact copyRegion_ok h1 _
      · exact hb.1
    · rw [presented_buf hk]
      split
      · have h1 := hc.2.2.2.2.1 _ (nextB_lt hc)
        unfold paintInto; rw [if_pos h.2.1, (copyRegion_size _ _ _).1, h1.2.1]; exact h.2.2.1.symm
      · rw [hb.2.1]; exact h.2.2.1.symm
    · rw [presented_buf hk]
      split
      · have h1 := hc.2.2.2.2.1 _ (nextB_lt hc)
        unfold paintInto; rw [if_pos h.2.1, (copyRegion_size _ _ _).2, h1.2.2.1]; exact h.2.2.2.symm
      · rw [hb.2.2.1]; exact h.2.2.2.symm
    · rw [presented_age hk2, hdl]; exact hbd
    · rw [presented_age hk2, presented_age (by omega)] at *
      by_cases h0 : newAge c s k = 0
      · exact h0
      · exfalso
        have hn := nextB_lt hc
        by_cases e1 : k = nextB c
        · have h2 := newAge_other (c := c) (s := s) (k := i) (by omega) (by rw [e]; exact h0)
          rw [e1, newAge_next] at e
          omega
        · have h3 := newAge_other e1 h0
          by_cases e2 : i = nextB c
          · rw [e2, newAge_next] at e; omega
          · have h2 := newAge_other e2 (by rw [e]; exact h0)
            exact h3.2 (hb.2.2.2.2 i hi (by omega))
  · rw [hdl, newDams_len] at hk
    show regionOk ((newDams c s).getD k [])
    cases k with
    | zero => rw [newDams_zero]; exact damageOf_ok _ _
    | succ k =>
      rw [newDams_succ c s (by omega)]
      exact hc.2.2.2.2.2 k (by omega)
def inside (c : DChain) : Prop := ∀ k, k < c.dams.length → ∀ y x, y < 16 → x < 16 → points (c.dam k) y x = true → scrG c.scene y x = true
theorem damage_in {a b : DScene} (ha : a.ok) (hb : b.ok) {y x : Nat} (hy : y < 16) (hx : x < 16) (h : points (damageOf a b) y x = true) : scrG b y x = true := by
  unfold damageOf at h
  rw [if_pos ⟨ha, hb⟩] at h
  split at h
  · rw [points_canon _ _ _ hy hx] at h
    unfold Grid.and at h
    rw [Bool.and_eq_true] at h; exact h.2
  · rw [points_canon _ _ _ hy hx] at h; exact h
theorem presented_inside {c : DChain} {s : DScene} (h : presentable c s) (hi : inside c) : inside (presented c s) := by
  intro k hk y x hy hx hp
  have hdl : (presented c s).dams.length = (newDams c s).length := rfl
  rw [hdl, newDams_len] at hk
  change points ((newDams c s).getD k []) y x = true at hp
  show scrG s y x = true
  cases k with
  | zero => rw [newDams_zero] at hp; exact damage_in h.1.1 h.2.1 hy hx hp
  | succ k =>
    rw [newDams_succ c s (by omega)] at hp
    rw [scr_size h.2.2]
    exact hi k (by omega) y x hy hx hp
theorem sumN_const (k : Nat) : ∀ (n m : Nat), m ≤ n → sumN (fun y => if y < m then k else 0) n = m * k
  | 0, m, h => by simp [sumN, show m = 0 by omega]
  | n + 1, m, h => by
    unfold sumN
    by_cases e : m = n + 1
    · subst e
      have h1 : sumN (fun y => if y < n + 1 then k else 0) n = sumN (fun y => if y < n then k else 0) n := sumN_congr n (fun y hy => by rw [if_pos hy, if_pos (by omega)])
      rw [h1, sumN_const k n n (Nat.le_refl _), if_pos (by omega), Nat.succ_mul]
    · rw [sumN_const k n m (by omega), if_neg (by omega)]; rfl
theorem cnt_lt (m : Nat) : ∀ n, m ≤ n → cnt (fun x => decide (x < m)) n = m
  | 0, h => by simp [cnt]; omega
  | n + 1, h => by
    unfold cnt
    by_cases e : m = n + 1
    · subst e
      have h1 : cnt (fun x => decide (x < n + 1)) n = cnt (fun x => decide (x < n)) n := cnt_congr n (fun y hy => by rw [decide_eq_true hy, decide_eq_true (by omega)])
      rw [h1, cnt_lt n n (Nat.le_refl _)]; simp
    · rw [cnt_lt m n (by omega)]; simp; omega
theorem cnt_none : ∀ n, cnt (fun _ => false) n = 0
  | 0 => rfl
  | n + 1 => by unfold cnt; rw [cnt_none n]; rfl
theorem card_scr {s : DScene} (h : s.ok) : (card (scrG s) : Int) = s.W * s.H := by
  have h1 := h.1
  have h2 := h.2.1
  have e : card (scrG s) = s.H.toNat * s.W.toNat := by
    unfold card
    rw [← sumN_const s.W.toNat 16 s.H.toNat (by omega)]
    refine sumN_congr 16 (fun y hy => ?_)
    by_cases hh : y < s.H.toNat
    · rw [if_pos hh, ← cnt_lt s.W.toNat 16 (by omega)]
      refine cnt_congr 16 (fun x hx => ?_)
      by_cases hw : x < s.W.toNat
      · rw [decide_eq_true hw]; exact (scrG_iff h y x).2 ⟨by omega, by omega⟩
      · rw [decide_eq_false hw]
        cases hc : scrG s y x with
        | false => rfl
        | true => have := (scrG_iff h y x).1 hc; omega
    · rw [if_neg hh, ← cnt_none 16]
      refine cnt_congr 16 (fun x hx => ?_)
      cases hc : scrG s y x with
      | false => rfl
      | true => have := (scrG_iff h y x).1 hc; omega
  rw [e]
  push_cast
  rw [Int.toNat_of_nonneg (by omega), Int.toNat_of_nonneg (by omega), Int.mul_comm]
theorem stale_area {c : DChain} {s : DScene} (h : presentable c s) (hi : inside c) (hk : c.age (nextB c) - 1 ≤ c.dams.length) : areaOf (staleR c (nextB c) s) ≤ s.W * s.H := by
  rw [← card_scr h.2.1]
  unfold staleR
  split
  · rw [areaOf_canon]; exact Int.le_refl _
  · rw [areaOf_canon]
    have := card_mono (g := staleG c (nextB c) s) (h := scrG s) (fun y x hy hx hp => by
      unfold staleG at hp
      rw [Bool.or_eq_true, List.any_eq_true] at hp
      rcases hp with hp | ⟨i, hm, hp⟩
      · exact damage_in h.1.1 h.2.1 hy hx hp
      · rw [List.mem_range] at hm
        rw [scr_size h.2.2]
        exact hi i (by omega) y x hy hx hp)
    omega
def nbOf (l : List Int) : Nat := nbFrom l l.length 0 0
def nextAges (l : List Int) (d : Nat) : List Int := (List.range l.length).map (fun i =>
  let a := if i = nbOf l then 1 else if l.getD i 0 = 0 then 0 else l.getD i 0 + 1
  if 3 < a ∨ ((min 3 (d + 1) : Nat) : Int) + 1 < a then 0 else a)
theorem presented_ages (c : DChain) (s : DScene) : (presented c s).ages = nextAges c.ages c.dams.length := by
  unfold presented nextAges
  refine List.map_congr_left (fun i _ => ?_)
  unfold newAge
  rw [newDams_len]; rfl
def agesA (n k : Nat) : List Int := (List.range n).map (fun i => if i < k then (k : Int) - i else 0)
def agesB (n j : Nat) : List Int := (List.range n).map (fun i => if i < j then (j : Int) - i else (n : Int) + j - i)
theorem turnA : ∀ n : Fin 4, ∀ k : Fin 4, k.1 < n.1 → nbOf (agesA n.1 k.1) = k.1 ∧ nextAges (agesA n.1 k.1) (min 3 k.1) = agesA n.1 (k.1 + 1) := by decide
theorem turnB : ∀ n : Fin 4, ∀ k : Fin 4, k.1 < n.1 → nbOf (agesB n.1 k.1) = k.1 ∧ nextAges (agesB n.1 k.1) (min 3 (n.1 + k.1)) = agesB n.1 (k.1 + 1) := by decide
theorem turnC : ∀ n : Fin 4, agesA n.1 n.1 = agesB n.1 0 ∧ agesA n.1 0 = List.replicate n.1 0 := by decide
theorem presentA {c : DChain} {s : DScene} {n k : Nat} (hn : n ≤ 3) (hk : k < n) (h1 : c.ages = agesA n k) (h2 : c.dams.length = min 3 k) :
    nextB c = k ∧ (presented c s).ages = agesA n (k + 1) ∧ (presented c s).dams.length = min 3 (k + 1) := by
  have h := turnA ⟨n, by omega⟩ ⟨k, by omega⟩ hk
  refine ⟨?_, ?_, ?_⟩
  · show nbOf c.ages = k; rw [h1]; exact h.1
  · rw [presented_ages, h1, h2]; exact h.2
  · show (newDams c s).length = _; rw [newDams_len, h2]; omega
theorem presentB {c : DChain} {s : DScene} {n k : Nat} (hn : n ≤ 3) (hk : k < n) (h1 : c.ages = agesB n k) (h2 : c.dams.length = min 3 (n + k)) :
    nextB c = k ∧ (presented c s).ages = agesB n (k + 1) ∧ (presented c s).dams.length = min 3 (n + (k + 1)) := by
  have h := turnB ⟨n, by omega⟩ ⟨k, by omega⟩ hk
  refine ⟨?_, ?_, ?_⟩
  · show nbOf c.ages = k; rw [h1]; exact h.1
  · rw [presented_ages, h1, h2]; exact h.2
  · show (newDams c s).length = _; rw [newDams_len, h2]; omega
theorem ages_turn {n : Nat} (hn : n ≤ 3) : agesA n n = agesB n 0 := (turnC ⟨n, by omega⟩).1
theorem ages_new {n : Nat} (hn : n ≤ 3) : agesA n 0 = List.replicate n 0 := (turnC ⟨n, by omega⟩).2
def newChain (s : DScene) (n : Int) : DChain := if s.ok ∧ (1 ≤ n ∧ n ≤ 3) then ⟨List.replicate n.toNat (newImage s.W s.H s.Back), List.replicate n.toNat 0, [], s⟩ else ⟨[], [], [], ⟨0, 0, 0, []⟩⟩
end Sx
namespace Sx
def presentC (c : DChain) (s : DScene) : DChain := if presentable c s then presented c s else c
def presentK (c : DChain) (s : DScene) : Int := if presentable c s then (nextB c : Int) else -1
def ageTo (f : Nat → Int) (l : List Int) (j : Nat) : List Int := (List.range j).map f ++ l.drop j
theorem ageTo_zero (f : Nat → Int) (l : List Int) : ageTo f l 0 = l := by simp [ageTo]
theorem ageTo_len (f : Nat → Int) (l : List Int) {j : Nat} (h : j ≤ l.length) : (ageTo f l j).length = l.length := by simp [ageTo]; omega
theorem ageTo_set (f : Nat → Int) (l : List Int) {j : Nat} (h : j < l.length) : (ageTo f l j).set j (f j) = ageTo f l (j + 1) := by
  unfold ageTo
  rw [List.set_append_right _ _ (by simp), List.length_map, List.length_range, Nat.sub_self, List.drop_eq_getElem_cons h, List.set_cons_zero, List.range_succ, List.map_append, List.append_assoc]
  rfl
theorem ageTo_all (f : Nat → Int) (l : List Int) : ageTo f l l.length = (List.range l.length).map f := by simp [ageTo]
def midAge (c : DChain) (s : DScene) (i : Nat) : Int :=
  let a := if c.age i = 0 then 0 else c.age i + 1
  if 3 < a ∨ ((newDams c s).length : Int) + 1 < a then 0 else a
theorem presented_eq (c : DChain) (s : DScene) : presented c s = ⟨c.bufs.set (nextB c) (paintInto (c.bufs.getD (nextB c) DImg.zero) s (staleR c (nextB c) s)), (List.range c.ages.length).map (newAge c s), newDams c s, s⟩ := rfl
theorem staleRegion_next {c : DChain} {s : DScene} (h : presentable c s) : staleRegion c (nextB c : Int) s = staleR c (nextB c) s := by
  have := nextB_lt h.1
  unfold staleRegion
  rw [if_pos ⟨h.1, h.2.1, h.2.2, by omega, by omega⟩, Int.toNat_natCast]
theorem nextBuffer_ok {c : DChain} (h : c.ok) : nextBuffer c = (nextB c : Int) := by unfold nextBuffer; rw [if_pos h]
end Sx
namespace Sx
def aged (c : DChain) (n : Nat) : Prop := c.ok ∧ shows c ∧ inside c ∧ c.bufs.length = n
theorem presented_len (c : DChain) (s : DScene) : (presented c s).bufs.length = c.bufs.length := by simp [presented]
theorem aged_next {c : DChain} {t : DScene} {n : Nat} (h : aged c n) (ht : t.ok) (hz : sameSize t c.scene) :
    presentable c t ∧ aged (presented c t) n ∧ nextB c < n ∧ (presented c t).bufs.getD (nextB c) DImg.zero = painted t ∧ (presented c t).ages.getD (nextB c) 0 = 1 ∧ (presented c t).ages.length = n ∧ areaOf (staleR c (nextB c) t) ≤ t.W * t.H := by
  have hp : presentable c t := ⟨h.1, ht, hz⟩
  have hn := nextB_lt h.1
  have hl : c.bufs.length = n := h.2.2.2
  have ha : c.ages.length = c.bufs.length := h.1.2.2.1
  have hok := presented_ok hp
  refine ⟨hp, ⟨hok, presented_shows hp h.2.1, presented_inside hp h.2.2.1, by rw [presented_len]; exact hl⟩, by omega, ?_, ?_, ?_, ?_⟩
  · have e : (presented c t).buf (nextB c) = painted t := by rw [presented_buf hn, if_pos rfl]; exact painted_next hp h.2.1
    exact e
  · have e : (presented c t).age (nextB c) = 1 := by rw [presented_age (by omega)]; exact newAge_next
    exact e
  · rw [hok.2.2.1, presented_len]; exact hl
  · exact stale_area hp h.2.2.1 (by have := (h.1.2.2.2.2.1 _ hn).2.2.2.1; omega)
def inA (c : DChain) (n k : Nat) : Prop := c.ok ∧ c.bufs.length = n ∧ c.ages = agesA n k ∧ c.dams.length = min 3 k
def inB (c : DChain) (n k : Nat) : Prop := c.ok ∧ c.bufs.length = n ∧ c.ages = agesB n k ∧ c.dams.length = min 3 (n + k)
theorem inA_next {c : DChain} {t : DScene} {n k : Nat} (h : inA c n k) (hn : n ≤ 3) (hk : k < n) (ht : t.ok) (hz : sameSize t c.scene) : presentable c t ∧ nextB c = k ∧ inA (presented c t) n (k + 1) := by
  have hp : presentable c t := ⟨h.1, ht, hz⟩
  have h9 := presentA (s := t) hn hk h.2.2.1 h.2.2.2
  exact ⟨hp, h9.1, presented_ok hp, by rw [presented_len]; exact h.2.1, h9.2.1, h9.2.2⟩
theorem inB_next {c : DChain} {t : DScene} {n k : Nat} (h : inB c n k) (hn : n ≤ 3) (hk : k < n) (ht : t.ok) (hz : sameSize t c.scene) : presentable c t ∧ nextB c = k ∧ inB (presented c t) n (k + 1) := by
  have hp : presentable c t := ⟨h.1, ht, hz⟩
  have h9 := presentB (s := t) hn hk h.2.2.1 h.2.2.2
  exact ⟨hp, h9.1, presented_ok hp, by rw [presented_len]; exact h.2.1, h9.2.1, h9.2.2⟩
theorem inA_turn {c : DChain} {n : Nat} (h : inA c n n) (hn : n ≤ 3) : inB c n 0 := ⟨h.1, h.2.1, by rw [h.2.2.1]; exact ages_turn hn, h.2.2.2⟩
def seenK (k : Nat) : List Int := (List.range k).map (fun (i : Nat) => (i : Int))
theorem seenK_len (k : Nat) : (seenK k).length = k := by simp [seenK]
theorem seenK_not (k : Nat) : ¬ (k : Int) ∈ seenK k := by
  intro h
  obtain ⟨i, hi, e⟩ := List.mem_map.1 h
  rw [List.mem_range] at hi
  omega
theorem seenK_succ (k : Nat) : seenK (k + 1) = seenK k ++ [(k : Int)] := by simp [seenK, List.range_succ]
theorem seenK_at {n k : Nat} (h : k < n) : (seenK n).getD k 0 = (k : Int) := by
  rw [List.getD_eq_getElem?_getD, List.getElem?_eq_getElem (by rw [seenK_len]; exact h)]
  simp [seenK]
end Sx
namespace Go.Proofs.YtpcammhmgleonaaGreat
open Go Sx
attribute [local irreducible] Exit.then Exit.inBlock bodyPost
def markRTo (l : List DRect) (k : Int) (j : Nat) : List DRect := iotaR k j ++ l.drop j
end Go.Proofs.YtpcammhmgleonaaGreat
namespace Go.Proofs.YtpcammhmgleonaaGreat
open Go Sx Go.ChangeShapes Go.WideShapes Go.ChangeAt Go.RowKit
attribute [local irreducible] Exit.then Exit.inBlock bodyPost
def eReg : SElem (List DRect) where
  k := 1
  dflt := []
  cells := fun _ d => [d]
  klen := fun _ _ => rfl
  rd := fun w d l => RRects w d l
  own := fun d l H => ORects d l H
  keep := fun h hw => RVs.keep h hw
  reads := fun h hw => ORects.rd h hw
theorem eReg_dflt : eReg.dflt = [] := rfl
theorem RRects.one {w : World} {v : Value} {l : List DRect} (h : RRects w v l) : v.oneCell' = true := by
  obtain ⟨a, q, rfl⟩ := h.form; rfl
end Go.Proofs.YtpcammhmgleonaaGreat
namespace Go.Proofs.YtpcammhmgleonaaGreat
open Go Sx Go.ChangeShapes Go.WideShapes Go.ChangeAt Go.RowKit
attribute [local irreducible] Exit.then Exit.inBlock bodyPost OVs OInts
structure ChV where
  b : Value
  a : Value
  d : Value
  s : Value
abbrev cChain (c : DChain) (v : ChV) : List Value := [v.b, v.a, v.d, .int .i64 c.scene.W, .int .i64 c.scene.H, .int .i64 c.scene.Back, v.s]
abbrev vChain (c : DChain) (b a d s : Value) : Value := .agg #[b, a, d, .int .i64 c.scene.W, .int .i64 c.scene.H, .int .i64 c.scene.Back, s]
structure RCh (w : World) (c : DChain) (b a d s : Value) : Prop where
  bufs : RS eImg w b c.bufs
  ages : RInts w a c.ages
  dams : RS eReg w d c.dams
  surfs : RS eSurf w s c.scene.ss
theorem RCh.keep {w w' : World} {c : DChain} {b a d s : Value} (h : RCh w c b a d s) (hw : ∀ p u, w.cell? p = some u → w'.cell? p = some u) : RCh w' c b a d s := ⟨h.bufs.keep hw, h.ages.keep hw, h.dams.keep hw, h.surfs.keep hw⟩
def OChain (u : Value) (c : DChain) (H : SPiece) : Prop := ∃ b a d s Hb Ha Hd Hs, u = vChain c b a d s ∧ OElems eImg 49 b c.bufs Hb ∧ OInts 3 a c.ages Ha ∧ OElems eReg 43 d c.dams Hd ∧ OElems eSurf 88 s c.scene.ss Hs ∧ H = [Hs, Hd, Ha, Hb].flatten
theorem eReg_ones {l : List DRect} {d : Value} (h : d.oneCell' = true) : oneCells (eReg.cells l d) = true := ones_cons h rfl
theorem eImg_ones {i : DImg} {d : Value} (h : d.oneCell' = true) : oneCells (eImg.cells i d) = true := ones_cons rfl (ones_cons rfl (ones_cons h rfl))
section
variable {P : Program} {n : Nat} {lo : SMut} {s : World} {ops : Array Oper} {Q : Exit → Act → World → Prop} {E : SEnv} {L : SHeap} {l : List Oper}
theorem w_four {A B C D : SPiece} (k : WPL P n lo s ops Q l E (A :: B :: C :: D :: L)) : WPL P n lo s ops Q l E ([A, B, C, D].flatten :: L) := w_perm (by simp) k
end
def imgsLen (l : List DImg) : Nat := l.length + sumTo (fun i => (l.getD i DImg.zero).data.length) l.length
def regsLen (l : List (List DRect)) : Nat := l.length + sumTo (fun i => (l.getD i []).length) l.length
def chainLen (c : DChain) : Nat := imgsLen c.bufs + c.ages.length + regsLen c.dams + surfsLen c.scene.ss
end Go.Proofs.YtpcammhmgleonaaGreat
namespace Sx
open Go
def intFields (P : Program) : Nat → List Field → Bool
  | _, [] => true
  | o, f :: fs => (f.name != "_") && (f.offset == o) && (match P.underlying f.type with | some (.int _) => true | _ => false) && intFields P (o + 1) fs
def eqIntsB (P : Program) (t : TypeId) (k : Nat) : Bool :=
  (match P.underlying t with | some (.struct fs) => fs.size == k && intFields P 0 fs.toList | _ => false) && !P.stoodInHeld t && !P.eqGuardType P.depth t
class SEqI (P : Program) (t : TypeId) (k : Nat) : Prop where
  h : eqIntsB P t k = true
theorem part_int {P : Program} {t : TypeId} {kk : IntKind} (h : P.underlying t = some (.int kk)) {l : List Value} {o : Nat} {v : Value} (hv : l[o]? = some v) (w : World) : (part t l.toArray o).run P w = .ok v w := by
  simp [part, isAgg, run_underlying h, hv]
theorem eqFields_ints {P : Program} (d : Nat) (w : World) : ∀ (fs : List Field) (o : Nat) (p q a c : List Int), p.length = o → q.length = o → fs.length = a.length → a.length = c.length → intFields P o fs = true →
    (Op.eqFields (d + 1) (ivals (p ++ a)).toArray (ivals (q ++ c)).toArray fs).run P w = .ok (decide (a = c)) w
  | [], o, p, q, a, c, _, _, hl, hl2, _ => by
    have h1 : a = [] := List.eq_nil_of_length_eq_zero hl.symm
    subst h1
    have h2 : c = [] := List.eq_nil_of_length_eq_zero hl2.symm
    subst h2
    simp [Op.eqFields]
  | f :: fs, o, p, q, [], c, _, _, hl, _, _ => by simp at hl
  | f :: fs, o, p, q, x :: a, [], _, _, _, hl2, _ => by simp at hl2
  | f :: fs, o, p, q, x :: a, y :: c, hp, hq, hl, hl2, hf => by
    simp only [intFields, Bool.and_eq_true, bne_iff_ne, beq_iff_eq] at hf
    obtain ⟨⟨⟨h1, h2⟩, h3⟩, h4⟩ := hf
    obtain ⟨kk, hk⟩ : ∃ kk, P.underlying f.type = some (.int kk) := by
      cases hu : P.underlying f.type with
      | none => simp [hu] at h3
      | some td => cases td <;> simp [hu] at h3; exact ⟨_, rfl⟩
    have g1 : (ivals (p ++ x :: a))[f.offset]? = some (.int .i64 x) := by rw [h2, ← hp]; simp [ivals]
    have g2 : (ivals (q ++ y :: c))[f.offset]? = some (.int .i64 y) := by rw [h2, ← hq]; simp [ivals]
    have ih := eqFields_ints d w fs (o + 1) (p ++ [x]) (q ++ [y]) a c (by simp [hp]) (by simp [hq]) (by simpa using hl) (by simpa using hl2) h4
    rw [List.append_assoc, List.append_assoc] at ih
    simp only [List.singleton_append] at ih
    unfold Op.eqFields
    rw [if_pos h1]
    simp only [Sem.run_bind, part_int hk g1, part_int hk g2, Result.andThen_ok, run_equalIn_int w d f.type .i64 kk x y hk]
    by_cases e : x = y
    · subst e
      simp only [beq_self_eq_true, Bool.not_true, Bool.false_eq_true, if_false, ih, List.cons.injEq, true_and]
    · simp [e]
section
variable {P : Program} {n : Nat} {lo : SMut} {s : World} {E : SEnv} {L : SHeap} {d : Option Tmp} {ty : TypeId} {pos : String} {after : Array Edge} {g : Option (Nat × Bool)} {x y : Operand} {xt yt : TypeId}
theorem equal_ints {P : Program} {t : TypeId} {k : Nat} [hk : SEqI P t k] (d : Nat) {a c : List Int} (ha : a.length = k) (hc : c.length = k) (w : World) : (Op.equalIn (d + 2) t (.agg (ivals a).toArray) (.agg (ivals c).toArray)).run P w = .ok (decide (a = c)) w := by
  have h := hk.h
  unfold eqIntsB at h
  simp only [Bool.and_eq_true, Bool.not_eq_true'] at h
  obtain ⟨⟨h1, h2⟩, h3⟩ := h
  have h4 : P.underlying t = some (.struct (P.fieldsOf t)) ∧ (P.fieldsOf t).size = k ∧ intFields P 0 (P.fieldsOf t).toList = true := by
    unfold Program.fieldsOf
    cases hu : P.underlying t with
    | none => simp [hu] at h1
    | some td => cases td <;> simp [hu] at h1 ⊢; exact h1
  rw [run_equalIn_struct w (d + 1) t _ _ h4.1 h2]
  exact eqFields_ints d w _ 0 [] [] a c rfl rfl (by rw [Array.length_toList, h4.2.1, ha]) (by rw [ha, hc]) h4.2.2
theorem ov_neqI {k : Nat} [hk : SEqI P xt k] {a c : List Int} (hx : sval E x = some (.agg (ivals a).toArray)) (hy : sval E y = some (.agg (ivals c).toArray)) (ha : a.length = k) (hc : c.length = k) : SOpV P n lo s E L ⟨d, .binOp .neq xt x y yt, ty, pos, after, g⟩ (.bool (!decide (a = c))) :=
  SOpV.of_run fun q hq w hw => by
    have h := hk.h
    unfold eqIntsB at h
    simp only [Bool.and_eq_true, Bool.not_eq_true'] at h
    simp only [execOp, hq.sval hx, hq.sval hy, Sem.run_bind, run_eqGuard_agg w .neq xt x y _ _ h.2, Result.andThen_ok, run_neq_struct, equal_ints 9998 ha hc w]
    rfl
end
end Sx
namespace Go.Proofs.YtpcammhmgleonaaGreat
open Go Sx
instance : SEqI Tryz.prog 81 4 := ⟨by kernel_rfl⟩
def rectL (r : DRect) : List Int := [r.X, r.Y, r.W, r.H]
theorem rectL_inj {r q : DRect} : rectL r = rectL q ↔ r = q := by
  constructor
  · intro h; cases r; cases q; simp [rectL] at h; simp [h]
  · intro h; rw [h]
theorem rectL_dec (r q : DRect) : decide (rectL r = rectL q) = decide (r = q) := decide_eq_decide.2 rectL_inj
section
variable {n : Nat} {lo : SMut} {s : World} {E : SEnv} {L : SHeap} {d : Option Tmp} {ty : TypeId} {pos : String} {after : Array Edge} {g : Option (Nat × Bool)} {x y : Operand} {yt : TypeId}
theorem ov_neRect {r q : DRect} (hx : sval E x = some (vRect r)) (hy : sval E y = some (vRect q)) : SOpV Tryz.prog n lo s E L ⟨d, .binOp .neq 81 x y yt, ty, pos, after, g⟩ (.bool (!decide (r = q))) := by
  rw [← rectL_dec]; exact ov_neqI (k := 4) (a := rectL r) (c := rectL q) hx hy rfl rfl
end
end Go.Proofs.YtpcammhmgleonaaGreat
namespace Go.Proofs.YtpcammhmgleonaaGreat
open Go Sx
attribute [local irreducible] Exit.then Exit.inBlock bodyPost
def mixG (op : Bool → Bool → Bool) (g h : Grid) (j : Nat) : Grid := fun y x => if y < j then op (g y x) (h y x) else g y x
theorem mixG_zero (op : Bool → Bool → Bool) (g h : Grid) : (mixG op g h 0).eqv g := fun y x _ _ => by unfold mixG; rw [if_neg (by omega)]
theorem mixG_next (op : Bool → Bool → Bool) (g h : Grid) {j : Nat} : (Grid.row (mixG op g h j) j (fun i => op (mixG op g h j j i) (h j i))).eqv (mixG op g h (j + 1)) := fun y x _ _ => by
  unfold Grid.row mixG
  by_cases e : y = j
  · subst e; rw [if_pos rfl, if_neg (by omega), if_pos (by omega)]
  · rw [if_neg e]
    by_cases e2 : y < j
    · rw [if_pos e2, if_pos (by omega)]
    · rw [if_neg e2, if_neg (by omega)]
theorem mixG_all (op : Bool → Bool → Bool) (g h : Grid) {j : Nat} (hj : 16 ≤ j) : (mixG op g h j).eqv (fun y x => op (g y x) (h y x)) := fun y x hy _ => by unfold mixG; rw [if_pos (by omega)]
section
variable {P : Program} {n : Nat} {lo : SMut} {s : World} {E : SEnv} {L : SHeap} {d : Option Tmp} {ty : TypeId} {pos : String} {after : Array Edge} {g0 : Option (Nat × Bool)} {x y : Operand} {xt yt : TypeId}
end
theorem c_gor (g f : Grid) (w : World) : SYields Tryz.prog 31 #[gval g, gval f] (gval (g.or f)) w := by
  (first | apply SYields.mk | apply SYieldsF.mk | skip); refine s_enter Tryz.func31 rfl Tryz.ntmps31 rfl ?_
  repeat' (first | exact rfl | (apply kO; (first | exact ov_pure rfl | (apply kOBin; (first | exact aBin | exact (ov_orG rfl rfl))) | (apply kOCall; (first | (apply kCallB; (first | exact aBlt | exact aLenR)))) | (apply kOLoad; (first | exact (ov_ldG (mixG (fun p q => p || q) g f j) rfl rfl gpA (by omega)) | exact (ov_ldG f rfl rfl gpA (by omega)) | exact aLdF | exact aLdR)) | exact ov_fieldAddr rfl | (apply kOIdx; (first | exact (ov_indexAddrA rfl rfl (by omega)) | exact aIdx)) | exact aRest | exact aNew | exact (ov_field1 (ft := 31) rfl rfl rfl rfl))) | (refine kN ?_; (first | (refine kStore ?_; (first | (refine s_setR _ rfl rfl gpA rfl (by simp [gl]; omega) ?_) | refine s_store1 _ rfl rfl gpA rfl (by rfl) ?_ | refine s_storeS _ rfl rfl gpA rfl rfl (by rfl) ?_ | refine s_storeS _ rfl rfl gpA rfl (ones_img oiA) (by rfl) ?_)) | refine s_boxS rfl rfl (fun b hb => ?_) | refine s_allocS rfl (fun b hb => ?_) | refine s_box1 rfl rfl rfl (fun b hb => ?_) | refine s_alloc1 rfl rfl (fun b hb => ?_) | refine s_buildSlice0 rfl (fun b hb => ?_) | refine s_buildSlice rfl rfl rfl rfl rfl (fun b hb => ?_) | apply s_step)) | (refine kG ?_; (first | refine s_gyes rfl rfl rfl ?_ | refine s_gno rfl rfl rfl rfl rfl ?_ | ((first | refine s_split_d rfl rfl (fun h => ?_) (fun h => ?_) | refine s_split_n rfl rfl (fun h => ?_) (fun h => ?_)) <;> (try (first | contradiction | (exfalso; omega)))) | refine s_split_nb rfl rfl (fun h => ?_) (fun h => ?_) | refine s_split rfl rfl (fun h => ?_) (fun h => ?_))) | (refine kS ?_; (first | refine h_exec rfl ?_ | refine h_take_nil rfl rfl rfl ?_ | refine h_take_pick rfl rfl rfl ?_ | refine h_nil ?_ | refine h_alt ?_ ?_ | apply h_take)) | (refine kBack ?_; (first | refine h_back_last rfl ?_ | refine h_backN rfl subA ?_)) | refine l_then ?_ | (refine kC ?_; (first | (refine kReg 4 ?_; refine c_regionSN (SPlan.take 0 (SPlan.take 1 (SPlan.take 2 (SPlan.take 3 (SPlan.take 4 (SPlan.take 5 (SPlan.take 6 (SPlan.take 7 (SPlan.run 8 SPlan.done))))))))) (some 8) rfl rfl (by decide +kernel) ?_) | (refine kReg 4 ?_; refine c_regionSN (SPlan.take 0 (SPlan.take 1 (SPlan.take 2 (SPlan.take 3 (SPlan.take 4 (SPlan.take 5 (SPlan.take 6 (SPlan.take 7 (SPlan.run 8 SPlan.done))))))))) none rfl rfl (by decide +kernel) ?_) | (refine c_loopV (ι := Nat) (fun j => j ≤ 16) (fun j => [(6, .int .i64 (j : Int))]) (fun j => [_, _, [(_, srow (gl (mixG (fun p q => p || q) g f j)) _)]]) (fun j => 16 - j) 0 (by omega) rfl (fun _ => rfl) ⟨rfl, trivial⟩ (fun w hw => by rw [gl_congr (mixG_zero _ g f)]; exact hw) (fun j hj => ?_)) | refine c_seq ?_ | refine c_regionN rfl ?_ | refine c_ret ?_ | (refine kCond ?_; (first | refine c_cond_t rfl ?_ | refine c_cond_f rfl ?_ | ((first | refine c_cond_d rfl (fun h => ?_) (fun h => ?_) | refine c_cond_n rfl (fun h => ?_) (fun h => ?_)) <;> (try (first | contradiction | (exfalso; omega)))) | refine c_cond_nb rfl (fun h => ?_) (fun h => ?_) | refine c_cond rfl (fun h => ?_) (fun h => ?_))) | refine c_block ?_ | refine c_skip ?_ | refine c_exit ?_ | refine c_regionQN rfl rfl (by decide +kernel) ?_)) | apply s_stepQ | (refine kQG ?_; (first | refine s_gyesQ rfl rfl rfl ?_ | refine s_gnoQ rfl rfl rfl rfl rfl ?_ | ((first | refine s_splitQ_d rfl rfl (fun h => ?_) (fun h => ?_) | refine s_splitQ_n rfl rfl (fun h => ?_) (fun h => ?_)) <;> (try (first | contradiction | (exfalso; omega)))) | refine s_splitQ_nb rfl rfl (fun h => ?_) (fun h => ?_) | refine s_splitQ rfl rfl (fun h => ?_) (fun h => ?_))) | refine lQ_then ?_ | refine lQ_ends ?_ | (refine kE ?_; (first | refine e_then_r ?_ | refine e_block_r ?_ | refine e_then_n ?_ | refine e_then_x ?_ | refine e_block_n ?_ | refine e_block_x ?_ | refine e_block_y rfl ?_)) | refine l_ends ?_)
  · refine e_round (j + 1) (by omega) ⟨slook_to rfl (vint_to (by push_cast; rfl)), (by repeat' first | exact trivial | refine ⟨rfl, ?_⟩)⟩ (fun w hw => ?_) (by omega)
    have e : (gl (mixG (fun p q => p || q) g f j)).set (0 + (j : Int).toNat * 1) (.int .i64 (Sx.bits (fun i => (fun p q => p || q) (mixG (fun p q => p || q) g f j j i) (f j i)) 16 : Nat)) = gl (mixG (fun p q => p || q) g f (j + 1)) := by
      rw [Nat.zero_add, Nat.mul_one, Int.toNat_natCast, gl_set _ (by omega), gl_congr (mixG_next (fun p q => p || q) g f)]
    rw [← e]; exact hw
  · refine s_leaveSF rfl rfl rfl fwA (fun w hw => ⟨?_, hw.below⟩)
    show Ending.returned (gval (mixG (fun p q => p || q) g f j)) = _
    rw [gval_congr (mixG_all (fun p q => p || q) g f (by omega))]; rfl
theorem c_gand (g f : Grid) (w : World) : SYields Tryz.prog 60 #[gval g, gval f] (gval (g.and f)) w := by
  (first | apply SYields.mk | apply SYieldsF.mk | skip); refine s_enter Tryz.func60 rfl Tryz.ntmps60 rfl ?_
  repeat' (first | exact rfl | (apply kO; (first | exact ov_pure rfl | (apply kOBin; (first | exact aBin | exact (ov_andG rfl rfl))) | (apply kOCall; (first | (apply kCallB; (first | exact aBlt | exact aLenR)))) | (apply kOLoad; (first | exact (ov_ldG (mixG (fun p q => p && q) g f j) rfl rfl gpA (by omega)) | exact (ov_ldG f rfl rfl gpA (by omega)) | exact aLdF | exact aLdR)) | exact ov_fieldAddr rfl | (apply kOIdx; (first | exact (ov_indexAddrA rfl rfl (by omega)) | exact aIdx)) | exact aRest | exact aNew | exact (ov_field1 (ft := 31) rfl rfl rfl rfl))) | (refine kN ?_; (first | (refine kStore ?_; (first | (refine s_setR _ rfl rfl gpA rfl (by simp [gl]; omega) ?_) | refine s_store1 _ rfl rfl gpA rfl (by rfl) ?_ | refine s_storeS _ rfl rfl gpA rfl rfl (by rfl) ?_ | refine s_storeS _ rfl rfl gpA rfl (ones_img oiA) (by rfl) ?_)) | refine s_boxS rfl rfl (fun b hb => ?_) | refine s_allocS rfl (fun b hb => ?_) | refine s_box1 rfl rfl rfl (fun b hb => ?_) | refine s_alloc1 rfl rfl (fun b hb => ?_) | refine s_buildSlice0 rfl (fun b hb => ?_) | refine s_buildSlice rfl rfl rfl rfl rfl (fun b hb => ?_) | apply s_step)) | (refine kG ?_; (first | refine s_gyes rfl rfl rfl ?_ | refine s_gno rfl rfl rfl rfl rfl ?_ | ((first | refine s_split_d rfl rfl (fun h => ?_) (fun h => ?_) | refine s_split_n rfl rfl (fun h => ?_) (fun h => ?_)) <;> (try (first | contradiction | (exfalso; omega)))) | refine s_split_nb rfl rfl (fun h => ?_) (fun h => ?_) | refine s_split rfl rfl (fun h => ?_) (fun h => ?_))) | (refine kS ?_; (first | refine h_exec rfl ?_ | refine h_take_nil rfl rfl rfl ?_ | refine h_take_pick rfl rfl rfl ?_ | refine h_nil ?_ | refine h_alt ?_ ?_ | apply h_take)) | (refine kBack ?_; (first | refine h_back_last rfl ?_ | refine h_backN rfl subA ?_)) | refine l_then ?_ | (refine kC ?_; (first | (refine kReg 4 ?_; refine c_regionSN (SPlan.take 0 (SPlan.take 1 (SPlan.take 2 (SPlan.take 3 (SPlan.take 4 (SPlan.take 5 (SPlan.take 6 (SPlan.take 7 (SPlan.run 8 SPlan.done))))))))) (some 8) rfl rfl (by decide +kernel) ?_) | (refine kReg 4 ?_; refine c_regionSN (SPlan.take 0 (SPlan.take 1 (SPlan.take 2 (SPlan.take 3 (SPlan.take 4 (SPlan.take 5 (SPlan.take 6 (SPlan.take 7 (SPlan.run 8 SPlan.done))))))))) none rfl rfl (by decide +kernel) ?_) | (refine c_loopV (ι := Nat) (fun j => j ≤ 16) (fun j => [(6, .int .i64 (j : Int))]) (fun j => [_, _, [(_, srow (gl (mixG (fun p q => p && q) g f j)) _)]]) (fun j => 16 - j) 0 (by omega) rfl (fun _ => rfl) ⟨rfl, trivial⟩ (fun w hw => by rw [gl_congr (mixG_zero _ g f)]; exact hw) (fun j hj => ?_)) | refine c_seq ?_ | refine c_regionN rfl ?_ | refine c_ret ?_ | (refine kCond ?_; (first | refine c_cond_t rfl ?_ | refine c_cond_f rfl ?_ | ((first | refine c_cond_d rfl (fun h => ?_) (fun h => ?_) | refine c_cond_n rfl (fun h => ?_) (fun h => ?_)) <;> (try (first | contradiction | (exfalso; omega)))) | refine c_cond_nb rfl (fun h => ?_) (fun h => ?_) | refine c_cond rfl (fun h => ?_) (fun h => ?_))) | refine c_block ?_ | refine c_skip ?_ | refine c_exit ?_ | refine c_regionQN rfl rfl (by decide +kernel) ?_)) | apply s_stepQ | (refine kQG ?_; (first | refine s_gyesQ rfl rfl rfl ?_ | refine s_gnoQ rfl rfl rfl rfl rfl ?_ | ((first | refine s_splitQ_d rfl rfl (fun h => ?_) (fun h => ?_) | refine s_splitQ_n rfl rfl (fun h => ?_) (fun h => ?_)) <;> (try (first | contradiction | (exfalso; omega)))) | refine s_splitQ_nb rfl rfl (fun h => ?_) (fun h => ?_) | refine s_splitQ rfl rfl (fun h => ?_) (fun h => ?_))) | refine lQ_then ?_ | refine lQ_ends ?_ | (refine kE ?_; (first | refine e_then_r ?_ | refine e_block_r ?_ | refine e_then_n ?_ | refine e_then_x ?_ | refine e_block_n ?_ | refine e_block_x ?_ | refine e_block_y rfl ?_)) | refine l_ends ?_)
  · refine e_round (j + 1) (by omega) ⟨slook_to rfl (vint_to (by push_cast; rfl)), (by repeat' first | exact trivial | refine ⟨rfl, ?_⟩)⟩ (fun w hw => ?_) (by omega)
    have e : (gl (mixG (fun p q => p && q) g f j)).set (0 + (j : Int).toNat * 1) (.int .i64 (Sx.bits (fun i => (fun p q => p && q) (mixG (fun p q => p && q) g f j j i) (f j i)) 16 : Nat)) = gl (mixG (fun p q => p && q) g f (j + 1)) := by
      rw [Nat.zero_add, Nat.mul_one, Int.toNat_natCast, gl_set _ (by omega), gl_congr (mixG_next (fun p q => p && q) g f)]
    rw [← e]; exact hw
  · refine s_leaveSF rfl rfl rfl fwA (fun w hw => ⟨?_, hw.below⟩)
    show Ending.returned (gval (mixG (fun p q => p && q) g f j)) = _
    rw [gval_congr (mixG_all (fun p q => p && q) g f (by omega))]; rfl
end Go.Proofs.YtpcammhmgleonaaGreat
namespace Go.Proofs.YtpcammhmgleonaaGreat
open Go Sx
attribute [local irreducible] Exit.then Exit.inBlock bodyPost Sx.bits canonR rowR
theorem OVs.one {α : Type} {c : α → List Value} {k : Nat} {T : TypeId} {v : Value} {l : List α} {H : SPiece} (h : OVs c k T v l H) : v.oneCell' = true := by
  obtain ⟨a, q, rfl⟩ := h.form; rfl
theorem bits_same {g : Grid} {y z : Nat} : ((Sx.bits (g z) 16 : Nat) : Int) = (Sx.bits (g y) 16 : Nat) ↔ sameRow g y z = true := by
  rw [sameRow_iff]
  constructor
  · intro h; exact bits_inj.1 (by omega)
  · intro h; rw [bits_inj.2 h]
theorem hgt_of {g : Grid} {y e : Nat} (h1 : y + 1 ≤ e) (h2 : ∀ z, y < z → z < e → z < 16 ∧ sameRow g y z = true) (h3 : ¬ (e < 16 ∧ sameRow g y e = true)) : hgt g y = e - y := by
  have := rnl_eq (f := sameRow g y) (x := y + 1) (w := e - (y + 1)) (fun i a b => h2 i (by omega) (by omega)) (by rw [show y + 1 + (e - (y + 1)) = e by omega]; exact h3)
  unfold hgt; omega
theorem rnl_of {f : Nat → Bool} {x z : Nat} (h1 : x ≤ z) (h2 : ∀ i, x ≤ i → i < z → i < 16 ∧ f i = true) (h3 : ¬ (z < 16 ∧ f z = true)) : rnl f x = z - x :=
  rnl_eq (fun i a b => h2 i a (by omega)) (by rw [show x + (z - x) = z by omega]; exact h3)
theorem rowR_app {f : Nat → Bool} {y h : Int} {x z : Nat} (hx : x < 16) (h1 : x < z) (h2 : ∀ i, x ≤ i → i < z → i < 16 ∧ f i = true) (h3 : ¬ (z < 16 ∧ f z = true)) : rowR f y h x = [⟨x, y, (z : Int) - x, h⟩] ++ rowR f y h (z + 1) := by
  have e := rnl_of (Nat.le_of_lt h1) h2 h3
  rw [rowR_step hx, e, if_neg (by omega), show x + (z - x) + 1 = z + 1 by omega, show (((z - x : Nat)) : Int) = (z : Int) - x by omega]
theorem rowR_skip {f : Nat → Bool} {y h : Int} {x : Nat} (hx : x < 16) (h3 : ¬ (x < 16 ∧ f x = true)) : rowR f y h x = rowR f y h (x + 1) := by
  have e := rnl_of (Nat.le_refl x) (fun i a c => by omega) h3
  rw [rowR_step hx, e, if_pos (by omega), show x + (x - x) + 1 = x + 1 by omega]; rfl
set_option maxHeartbeats 4000000 in
theorem c_gregion (g : Grid) (W : World) : SYieldsF Tryz.prog 28 #[gval g] (fun u H => OReg u (canon g) H) W := by
  (first | apply SYields.mk | apply SYieldsF.mk | skip); refine s_enter Tryz.func28 rfl Tryz.ntmps28 rfl ?_
  repeat' (first | exact rfl | (apply kO; (first | exact ov_pure rfl | (apply kOBin; (first | exact aBin | exact (ov_andBit rfl rfl (by omega)))) | (apply kOCall; (first | (apply kCallB; (first | exact aBlt | exact aLenR)))) | (apply kOLoad; (first | exact (ov_ldG g rfl rfl gpA (by omega)) | exact aLdF | exact aLdR)) | exact ov_fieldAddr rfl | (apply kOIdx; (first | exact (ov_indexAddrA rfl rfl (by omega)) | exact aIdx)) | exact aRest | exact (ov_bit rfl rfl (by omega)) | exact aNew | exact (ov_field1 (ft := 31) rfl rfl rfl rfl))) | (refine kN ?_; (first | (refine kCall ?_; (first | (refine kWApp ?_; (refine s_appendVs _ _ (c := cRect) (kk := 4) (a := ⟨x.1, y.1, (z : Int) - x.1, (e : Int) - y.1⟩) rfl rfl (by assumption) gpA gpA rfl rfl (by rw [scells_eq]; rfl) (by decide) (by omega) (by decide) rfl (fun v' H' hv' => ?_); have f1 := hv'.form; obtain ⟨ua, uc, rfl⟩ := f1)) | apply s_step)) | (refine kStore ?_; (first | (refine s_storeS _ rfl rfl gpA rfl (ones_cons (OVs.one (by assumption)) rfl) (by rfl) ?_) | refine s_store1 _ rfl rfl gpA rfl (by rfl) ?_ | refine s_storeS _ rfl rfl gpA rfl rfl (by rfl) ?_ | refine s_storeS _ rfl rfl gpA rfl (ones_img oiA) (by rfl) ?_)) | refine s_boxS rfl rfl (fun b hb => ?_) | refine s_allocS rfl (fun b hb => ?_) | refine s_box1 rfl rfl rfl (fun b hb => ?_) | refine s_alloc1 rfl rfl (fun b hb => ?_) | refine s_buildSlice0 rfl (fun b hb => ?_) | refine s_buildSlice rfl rfl rfl rfl rfl (fun b hb => ?_) | apply s_step)) | (refine kG ?_; (first | refine s_gyes rfl rfl rfl ?_ | refine s_gno rfl rfl rfl rfl rfl ?_ | ((first | refine s_split_d rfl rfl (fun h => ?_) (fun h => ?_) | refine s_split_n rfl rfl (fun h => ?_) (fun h => ?_)) <;> (try (first | contradiction | (exfalso; omega)))) | refine s_split_nb rfl rfl (fun h => ?_) (fun h => ?_) | refine s_split rfl rfl (fun h => ?_) (fun h => ?_))) | refine l_then ?_ | (refine kC ?_; (first | (refine c_loopV (ι := Nat × List DRect × Value × SPiece) (fun y => y.1 ≤ 16 ∧ ORects y.2.2.1 y.2.1 y.2.2.2 ∧ y.2.1 ++ canonR g y.1 = canon g ∧ y.2.1.length ≤ 8 * y.1) (fun y => [(4, .int .i64 (y.1 : Int))]) (fun y => [[(_, srow [y.2.2.1] 43)], y.2.2.2, _, _]) (fun y => 16 - y.1) (0, [], _, []) ⟨by dsimp only; omega, OVs.nil, (show [] ++ canonR g 0 = canonR g 0 from List.nil_append _), by dsimp only; simp⟩ rfl (fun _ => rfl) ⟨rfl, trivial⟩ (fun w hw => hw.nil1) (fun y hy => ?_); obtain ⟨hy1, hy2, hy3, hy4⟩ := hy) | (refine c_loopV (ι := Nat) (fun e => (y.1 + 1 ≤ e ∧ e ≤ 16) ∧ ∀ z, y.1 < z → z < e → z < 16 ∧ sameRow g y.1 z = true) (fun e => [(5, .int .i64 (e : Int))]) (fun e => [_, _, _, _]) (fun e => 16 - e) (y.1 + 1) ⟨by omega, fun z a b => by omega⟩ rfl (fun _ => rfl) ⟨slook_to rfl (vint_to (by push_cast; rfl)), trivial⟩ (fun w hw => hw) (fun e he => ?_); obtain ⟨he1, he2⟩ := he) | (refine c_loopV (ι := Nat × List DRect × Value × SPiece) (fun x => x.1 ≤ 17 ∧ ORects x.2.2.1 x.2.1 x.2.2.2 ∧ x.2.1 ++ (rowR (g y.1) y.1 ((e : Int) - y.1) x.1 ++ canonR g e) = canon g ∧ x.2.1.length ≤ 8 * y.1 + x.1 / 2) (fun x => [(6, .int .i64 (x.1 : Int))]) (fun x => [[(_, srow [x.2.2.1] 43)], x.2.2.2, _, _]) (fun x => 17 - x.1) (0, y.2.1, y.2.2.1, y.2.2.2) ⟨by dsimp only; omega, hy2, by dsimp only; rw [← hy3, canonR_step (g := g) (y := y.1) (by omega), hgt_of he1.1 he2 (fun hh => by first | omega | (exact absurd (bits_same.2 hh.2) (by assumption))), show y.1 + (e - y.1) = e by omega, show (((e - y.1 : Nat)) : Int) = (e : Int) - y.1 by omega], by dsimp only; omega⟩ rfl (fun _ => rfl) ⟨rfl, trivial⟩ (fun w hw => hw) (fun x hx => ?_); obtain ⟨hx1, hx2, hx3, hx4⟩ := hx) | (refine c_loopV (ι := Nat) (fun z => (x.1 ≤ z ∧ z ≤ 16) ∧ ∀ i, x.1 ≤ i → i < z → i < 16 ∧ g y.1 i = true) (fun z => [(6, .int .i64 (z : Int))]) (fun z => [_, _, _, _]) (fun z => 16 - z) x.1 ⟨by omega, fun i a b => by omega⟩ rfl (fun _ => rfl) ⟨rfl, trivial⟩ (fun w hw => hw) (fun z hz => ?_); obtain ⟨hz1, hz2⟩ := hz) | refine c_seq ?_ | refine c_regionN rfl ?_ | refine c_ret ?_ | (refine kCond ?_; (first | refine c_cond_t rfl ?_ | refine c_cond_f rfl ?_ | ((first | refine c_cond_d rfl (fun h => ?_) (fun h => ?_) | refine c_cond_n rfl (fun h => ?_) (fun h => ?_)) <;> (try (first | contradiction | (exfalso; omega)))) | refine c_cond_nb rfl (fun h => ?_) (fun h => ?_) | refine c_cond rfl (fun h => ?_) (fun h => ?_))) | refine c_block ?_ | refine c_skip ?_ | refine c_exit ?_ | refine c_regionQN rfl rfl (by decide +kernel) ?_)) | apply s_stepQ | (refine kQG ?_; (first | refine s_gyesQ rfl rfl rfl ?_ | refine s_gnoQ rfl rfl rfl rfl rfl ?_ | ((first | refine s_splitQ_d rfl rfl (fun h => ?_) (fun h => ?_) | refine s_splitQ_n rfl rfl (fun h => ?_) (fun h => ?_)) <;> (try (first | contradiction | (exfalso; omega)))) | refine s_splitQ_nb rfl rfl (fun h => ?_) (fun h => ?_) | refine s_splitQ rfl rfl (fun h => ?_) (fun h => ?_))) | refine lQ_then ?_ | refine lQ_ends ?_ | (refine kE ?_; (first | refine e_then_r ?_ | refine e_block_r ?_ | refine e_then_n ?_ | refine e_then_x ?_ | refine e_block_n ?_ | refine e_block_x ?_ | refine e_block_y rfl ?_)) | refine l_ends ?_)
  · refine e_round (e + 1) ⟨by omega, fun z a c => ?_⟩ ⟨slook_to rfl (vint_to (by push_cast; rfl)), (by repeat' first | exact trivial | refine ⟨rfl, ?_⟩)⟩ (fun w hw => hw) (by omega)
    by_cases e0 : z = e
    · subst e0; exact ⟨by omega, bits_same.1 h⟩
    · exact he2 z a (by omega)
  · refine e_round (z + 1) ⟨by omega, fun i a c => ?_⟩ ⟨slook_to rfl (vint_to (by push_cast; rfl)), (by repeat' first | exact trivial | refine ⟨rfl, ?_⟩)⟩ (fun w hw => hw) (by omega)
    by_cases e0 : i = z
    · subst e0; exact ⟨by omega, bit_ne.1 h⟩
    · exact hz2 i a (by omega)
  · have hxz : x.1 < z := by omega
    have hn : ¬ (z < 16 ∧ g y.1 z = true) := fun hh => by first | omega | exact absurd (bit_ne.2 hh.2) (by assumption)
    refine e_round (z + 1, _, _, H') ⟨by dsimp only; omega, hv', ?_, by dsimp only; rw [List.length_append, List.length_singleton]; omega⟩ ⟨slook_to rfl (vint_to (by push_cast; rfl)), (by repeat' first | exact trivial | refine ⟨rfl, ?_⟩)⟩ (fun w hw => hw.sub (selO_sub [false, true, true, true, true] _ _ rfl)) (by dsimp only; omega)
    dsimp only
    rw [← hx3, rowR_app (f := g y.1) (y := y.1) (h := (e : Int) - y.1) (by omega) hxz hz2 hn, List.append_assoc, List.append_assoc]
  · have hxz : z = x.1 := by omega
    have hn : ¬ (z < 16 ∧ g y.1 z = true) := fun hh => by first | omega | exact absurd (bit_ne.2 hh.2) (by assumption)
    subst hxz
    refine e_round (x.1 + 1, x.2.1, x.2.2.1, x.2.2.2) ⟨by dsimp only; omega, hx2, ?_, by dsimp only; omega⟩ ⟨slook_to rfl (vint_to (by push_cast; rfl)), (by repeat' first | exact trivial | refine ⟨rfl, ?_⟩)⟩ (fun w hw => hw) (by dsimp only; omega)
    dsimp only
    rw [← rowR_skip (f := g y.1) (y := y.1) (h := (e : Int) - y.1) (by omega) hn]; exact hx3
  · have hxz : x.1 < z := by omega
    have hn : ¬ (z < 16 ∧ g y.1 z = true) := fun hh => by first | omega | exact absurd (bit_ne.2 hh.2) (by assumption)
    refine e_round (z + 1, _, _, H') ⟨by dsimp only; omega, hv', ?_, by dsimp only; rw [List.length_append, List.length_singleton]; omega⟩ ⟨slook_to rfl (vint_to (by push_cast; rfl)), (by repeat' first | exact trivial | refine ⟨rfl, ?_⟩)⟩ (fun w hw => hw.sub (selO_sub [false, true, true, true, true] _ _ rfl)) (by dsimp only; omega)
    dsimp only
    rw [← hx3, rowR_app (f := g y.1) (y := y.1) (h := (e : Int) - y.1) (by omega) hxz hz2 hn, List.append_assoc, List.append_assoc]
  · rw [rowR_done (by omega), List.nil_append] at hx3
    exact e_round (e, x.2.1, x.2.2.1, x.2.2.2) ⟨by dsimp only; omega, hx2, hx3, by dsimp only; omega⟩ ⟨slook_to rfl (vint_to (by rfl)), (by repeat' first | exact trivial | refine ⟨rfl, ?_⟩)⟩ (fun w hw => hw) (by dsimp only; omega)
  · refine e_round (z + 1) ⟨by omega, fun i a c => ?_⟩ ⟨slook_to rfl (vint_to (by push_cast; rfl)), (by repeat' first | exact trivial | refine ⟨rfl, ?_⟩)⟩ (fun w hw => hw) (by omega)
    by_cases e0 : i = z
    · subst e0; exact ⟨by omega, bit_ne.1 h⟩
    · exact hz2 i a (by omega)
  · have hxz : x.1 < z := by omega
    have hn : ¬ (z < 16 ∧ g y.1 z = true) := fun hh => by first | omega | exact absurd (bit_ne.2 hh.2) (by assumption)
    refine e_round (z + 1, _, _, H') ⟨by dsimp only; omega, hv', ?_, by dsimp only; rw [List.length_append, List.length_singleton]; omega⟩ ⟨slook_to rfl (vint_to (by push_cast; rfl)), (by repeat' first | exact trivial | refine ⟨rfl, ?_⟩)⟩ (fun w hw => hw.sub (selO_sub [false, true, true, true, true] _ _ rfl)) (by dsimp only; omega)
    dsimp only
    rw [← hx3, rowR_app (f := g y.1) (y := y.1) (h := (e : Int) - y.1) (by omega) hxz hz2 hn, List.append_assoc, List.append_assoc]
  · have hxz : z = x.1 := by omega
    have hn : ¬ (z < 16 ∧ g y.1 z = true) := fun hh => by first | omega | exact absurd (bit_ne.2 hh.2) (by assumption)
    subst hxz
    refine e_round (x.1 + 1, x.2.1, x.2.2.1, x.2.2.2) ⟨by dsimp only; omega, hx2, ?_, by dsimp only; omega⟩ ⟨slook_to rfl (vint_to (by push_cast; rfl)), (by repeat' first | exact trivial | refine ⟨rfl, ?_⟩)⟩ (fun w hw => hw) (by dsimp only; omega)
    dsimp only
    rw [← rowR_skip (f := g y.1) (y := y.1) (h := (e : Int) - y.1) (by omega) hn]; exact hx3
  · have hxz : x.1 < z := by omega
    have hn : ¬ (z < 16 ∧ g y.1 z = true) := fun hh => by first | omega | exact absurd (bit_ne.2 hh.2) (by assumption)
    refine e_round (z + 1, _, _, H') ⟨by dsimp only; omega, hv', ?_, by dsimp only; rw [List.length_append, List.length_singleton]; omega⟩ ⟨slook_to rfl (vint_to (by push_cast; rfl)), (by repeat' first | exact trivial | refine ⟨rfl, ?_⟩)⟩ (fun w hw => hw.sub (selO_sub [false, true, true, true, true] _ _ rfl)) (by dsimp only; omega)
    dsimp only
    rw [← hx3, rowR_app (f := g y.1) (y := y.1) (h := (e : Int) - y.1) (by omega) hxz hz2 hn, List.append_assoc, List.append_assoc]
  · rw [rowR_done (by omega), List.nil_append] at hx3
    exact e_round (e, x.2.1, x.2.2.1, x.2.2.2) ⟨by dsimp only; omega, hx2, hx3, by dsimp only; omega⟩ ⟨slook_to rfl (vint_to (by rfl)), (by repeat' first | exact trivial | refine ⟨rfl, ?_⟩)⟩ (fun w hw => hw) (by dsimp only; omega)
  · have e0 : y.1 = 16 := by omega
    rw [e0, canonR_done (by omega), List.append_nil] at hy3
    rw [hy3] at hy2
    exact s_leaveSF rfl rfl rfl fwA (fun w hw => ⟨_, _, rfl, ⟨_, rfl, hy2⟩, hw.toFresh (H := y.2.2.2) gpA⟩)
end Go.Proofs.YtpcammhmgleonaaGreat
namespace Go.Proofs.YtpcammhmgleonaaGreat
open Go Sx
attribute [local irreducible] Exit.then Exit.inBlock bodyPost
end Go.Proofs.YtpcammhmgleonaaGreat
namespace Go.Proofs.YtpcammhmgleonaaGreat
open Go Sx
attribute [local irreducible] Exit.then Exit.inBlock bodyPost
end Go.Proofs.YtpcammhmgleonaaGreat
namespace Go.Proofs.YtpcammhmgleonaaGreat
open Go Sx
attribute [local irreducible] Exit.then Exit.inBlock bodyPost Sx.bits canonR rowR gvals sameRow OVs
end Go.Proofs.YtpcammhmgleonaaGreat
namespace Go.Proofs.YtpcammhmgleonaaGreat
open Go Sx
attribute [local irreducible] Exit.then Exit.inBlock bodyPost OVs OInts canonR rowR gvals points Sx.canon
end Go.Proofs.YtpcammhmgleonaaGreat
namespace Go.Proofs.YtpcammhmgleonaaGreat
open Go Sx
attribute [local irreducible] Exit.then Exit.inBlock bodyPost OVs OInts canonR rowR points Sx.canon
set_option maxHeartbeats 4000000 in
theorem c_gridOfRegion (v : Value) (l : List DRect) (W : World) (hv : RRects W v l) : SYields Tryz.prog 29 #[vReg v] (gval (points l)) W := by
  have hll := hv.len
  have hv' := hv.form
  obtain ⟨_, _, rfl⟩ := hv'
  have h0 : points (l.take 0) = Grid.none := by unfold points; funext y x; rfl
  (first | apply SYields.mk | apply SYieldsF.mk | skip); refine s_enter Tryz.func29 rfl Tryz.ntmps29 rfl ?_
  repeat' (first | exact rfl | (apply kO; (first | exact ov_pure rfl | (apply kOBin; (first | exact aBin)) | (apply kOCall; (first | (apply kCallF; (first | exact (ov_call rfl (fun w hw => c_gridOf (l.getD j DRect.zero) w)) | exact (ov_call rfl (fun w hw => c_gor (points (l.take j)) (rectG (l.getD j DRect.zero)) w)))) | (apply kCallB; (first | exact aBlt | exact aLenR)))) | (apply kOLoad; (first | exact (ov_ldRZ (fun w hw => RRow.keep hv (hw.cells rfl)) rfl rfl (by omega) rfl) | exact aLdF | exact aLdR)) | exact ov_fieldAddr rfl | (apply kOIdx; (first | exact (ov_idxR (fun w hw => RRow.keep hv (hw.cells rfl)) rfl rfl (by omega)) | exact aIdx)) | exact aRest | exact (ov_buildA0) | exact aNew | exact (ov_field1 (ft := 31) rfl rfl rfl rfl))) | (refine kN ?_; (first | (refine kStore ?_; (first | refine s_store1 _ rfl rfl gpA rfl (by rfl) ?_ | refine s_storeS _ rfl rfl gpA rfl rfl (by rfl) ?_ | refine s_storeS _ rfl rfl gpA rfl (ones_img oiA) (by rfl) ?_)) | refine s_boxS rfl rfl (fun b hb => ?_) | refine s_allocS rfl (fun b hb => ?_) | refine s_box1 rfl rfl rfl (fun b hb => ?_) | refine s_alloc1 rfl rfl (fun b hb => ?_) | refine s_buildSlice0 rfl (fun b hb => ?_) | refine s_buildSlice rfl rfl rfl rfl rfl (fun b hb => ?_) | apply s_step)) | (refine kG ?_; (first | refine s_gyes rfl rfl rfl ?_ | refine s_gno rfl rfl rfl rfl rfl ?_ | ((first | refine s_split_d rfl rfl (fun h => ?_) (fun h => ?_) | refine s_split_n rfl rfl (fun h => ?_) (fun h => ?_)) <;> (try (first | contradiction | (exfalso; omega)))) | refine s_split_nb rfl rfl (fun h => ?_) (fun h => ?_) | refine s_split rfl rfl (fun h => ?_) (fun h => ?_))) | (refine kS ?_; (first | refine h_exec rfl ?_ | refine h_take_nil rfl rfl rfl ?_ | refine h_take_pick rfl rfl rfl ?_ | refine h_nil ?_ | refine h_alt ?_ ?_ | apply h_take)) | (refine kBack ?_; (first | refine h_back_last rfl ?_ | refine h_backN rfl subA ?_)) | refine l_then ?_ | (refine kC ?_; (first | (refine kReg 5 ?_; refine c_regionSN (SPlan.take 0 (SPlan.take 1 (SPlan.run 2 (SPlan.run 3 (SPlan.run 4 SPlan.done))))) (some 4) rfl rfl (by decide +kernel) ?_) | (refine kReg 5 ?_; refine c_regionSN (SPlan.take 0 (SPlan.take 1 (SPlan.run 2 (SPlan.run 3 (SPlan.run 4 SPlan.done))))) none rfl rfl (by decide +kernel) ?_) | (refine c_loopV (ι := Nat) (fun j => j ≤ l.length) (fun j => [(10, .int .i64 (j : Int))]) (fun j => [[(_, srow (gl (points (l.take j))) _)], _, _]) (fun j => l.length - j) 0 (by omega) rfl (fun _ => rfl) ⟨rfl, trivial⟩ (fun w hw => by rw [h0]; exact hw) (fun j hj => ?_)) | refine c_seq ?_ | refine c_regionN rfl ?_ | refine c_ret ?_ | (refine kCond ?_; (first | refine c_cond_t rfl ?_ | refine c_cond_f rfl ?_ | ((first | refine c_cond_d rfl (fun h => ?_) (fun h => ?_) | refine c_cond_n rfl (fun h => ?_) (fun h => ?_)) <;> (try (first | contradiction | (exfalso; omega)))) | refine c_cond_nb rfl (fun h => ?_) (fun h => ?_) | refine c_cond rfl (fun h => ?_) (fun h => ?_))) | refine c_block ?_ | refine c_skip ?_ | refine c_exit ?_ | refine c_regionQN rfl rfl (by decide +kernel) ?_)) | apply s_stepQ | (refine kQG ?_; (first | refine s_gyesQ rfl rfl rfl ?_ | refine s_gnoQ rfl rfl rfl rfl rfl ?_ | ((first | refine s_splitQ_d rfl rfl (fun h => ?_) (fun h => ?_) | refine s_splitQ_n rfl rfl (fun h => ?_) (fun h => ?_)) <;> (try (first | contradiction | (exfalso; omega)))) | refine s_splitQ_nb rfl rfl (fun h => ?_) (fun h => ?_) | refine s_splitQ rfl rfl (fun h => ?_) (fun h => ?_))) | refine lQ_then ?_ | refine lQ_ends ?_ | (refine kE ?_; (first | refine e_then_r ?_ | refine e_block_r ?_ | refine e_then_n ?_ | refine e_then_x ?_ | refine e_block_n ?_ | refine e_block_x ?_ | refine e_block_y rfl ?_)) | refine l_ends ?_)
  · exact e_round (j + 1) (by omega) ⟨slook_to rfl (vint_to (by push_cast; rfl)), (by repeat' first | exact trivial | refine ⟨rfl, ?_⟩)⟩ (fun w hw => by rw [points_take (by omega)]; exact hw.sub (selO_sub [false, true, true, true] _ _ rfl)) (by omega)
  · refine s_leaveSF rfl rfl rfl fwA (fun w hw => ⟨?_, hw.below⟩)
    show Ending.returned (gval (points (l.take j))) = _
    rw [List.take_of_length_le (by omega)]
set_option maxHeartbeats 4000000 in
theorem c_iregionOf (v : Value) (l : List DRect) (W : World) (hv : RRects W v l) : SYieldsF Tryz.prog 77 #[v] (fun u H => OReg u (canon (points l)) H) W := by
  have hll := hv.len
  have hv' := hv.form
  obtain ⟨_, _, rfl⟩ := hv'
  have h0 : points (l.take 0) = Grid.none := by unfold points; funext y x; rfl
  (first | apply SYields.mk | apply SYieldsF.mk | skip); refine s_enter Tryz.func77 rfl Tryz.ntmps77 rfl ?_
  repeat' (first | exact rfl | (apply kO; (first | exact ov_pure rfl | (apply kOBin; (first | exact aBin)) | (apply kOCall; (first | (apply kCallF; (first | exact (ov_call rfl (fun w hw => c_irectOk (l.getD j DRect.zero) w)) | exact (ov_call rfl (fun w hw => c_gridOf (l.getD j DRect.zero) w)) | exact (ov_call rfl (fun w hw => c_gor (points (l.take j)) (rectG (l.getD j DRect.zero)) w)))) | (apply kCallB; (first | exact aBlt | exact aLenR)))) | (apply kOLoad; (first | exact (ov_ldRZ (fun w hw => RRow.keep hv (hw.cells rfl)) rfl rfl (by omega) rfl) | exact aLdF | exact aLdR)) | exact ov_fieldAddr rfl | (apply kOIdx; (first | exact (ov_idxR (fun w hw => RRow.keep hv (hw.cells rfl)) rfl rfl (by omega)) | exact aIdx)) | exact aRest | exact (ov_buildA0) | exact aNew | exact (ov_field1 (ft := 31) rfl rfl rfl rfl))) | (refine kN ?_; (first | (refine kCall ?_; (first | (refine kWFn 28 ?_; (refine s_callF (fun u H => OReg u (canon (points (l.take j))) H) rfl (fun w hw => c_gregion (points (l.take j)) w) rfl (fun u H hu => ?_); obtain ⟨d', rfl, hu⟩ := hu)) | apply s_step)) | (refine kStore ?_; (first | (refine s_storeS _ rfl rfl gpA rfl (ones_cons (OVs.one (by assumption)) rfl) (by rfl) ?_) | refine s_store1 _ rfl rfl gpA rfl (by rfl) ?_ | refine s_storeS _ rfl rfl gpA rfl rfl (by rfl) ?_ | refine s_storeS _ rfl rfl gpA rfl (ones_img oiA) (by rfl) ?_)) | refine s_boxS rfl rfl (fun b hb => ?_) | refine s_allocS rfl (fun b hb => ?_) | refine s_box1 rfl rfl rfl (fun b hb => ?_) | refine s_alloc1 rfl rfl (fun b hb => ?_) | refine s_buildSlice0 rfl (fun b hb => ?_) | refine s_buildSlice rfl rfl rfl rfl rfl (fun b hb => ?_) | apply s_step)) | (refine kG ?_; (first | refine s_gyes rfl rfl rfl ?_ | refine s_gno rfl rfl rfl rfl rfl ?_ | ((first | refine s_split_d rfl rfl (fun h => ?_) (fun h => ?_) | refine s_split_n rfl rfl (fun h => ?_) (fun h => ?_)) <;> (try (first | contradiction | (exfalso; omega)))) | refine s_split_nb rfl rfl (fun h => ?_) (fun h => ?_) | refine s_split rfl rfl (fun h => ?_) (fun h => ?_))) | (refine kS ?_; (first | refine h_exec rfl ?_ | refine h_take_nil rfl rfl rfl ?_ | refine h_take_pick rfl rfl rfl ?_ | refine h_nil ?_ | refine h_alt ?_ ?_ | apply h_take)) | (refine kBack ?_; (first | refine h_back_last rfl ?_ | refine h_backN rfl subA ?_)) | refine l_then ?_ | (refine kC ?_; (first | (refine kReg 6 ?_; refine c_regionSN (SPlan.take 0 (SPlan.take 1 (SPlan.run 2 (SPlan.run 3 (SPlan.run 4 SPlan.done))))) (some 4) rfl rfl (by decide +kernel) ?_) | (refine kReg 6 ?_; refine c_regionSN (SPlan.take 0 (SPlan.take 1 (SPlan.run 2 (SPlan.run 3 (SPlan.run 4 SPlan.done))))) none rfl rfl (by decide +kernel) ?_) | (refine c_loopV (ι := Nat) (fun j => j ≤ l.length) (fun j => [(9, .int .i64 (j : Int))]) (fun j => [[(_, srow (gl (points (l.take j))) _)], _]) (fun j => l.length - j) 0 (by omega) rfl (fun _ => rfl) ⟨rfl, trivial⟩ (fun w hw => by rw [h0]; exact hw) (fun j hj => ?_)) | refine c_seq ?_ | refine c_regionN rfl ?_ | refine c_ret ?_ | (refine kCond ?_; (first | refine c_cond_t rfl ?_ | refine c_cond_f rfl ?_ | ((first | refine c_cond_d rfl (fun h => ?_) (fun h => ?_) | refine c_cond_n rfl (fun h => ?_) (fun h => ?_)) <;> (try (first | contradiction | (exfalso; omega)))) | refine c_cond_nb rfl (fun h => ?_) (fun h => ?_) | refine c_cond rfl (fun h => ?_) (fun h => ?_))) | refine c_block ?_ | refine c_skip ?_ | refine c_exit ?_ | refine c_regionQN rfl rfl (by decide +kernel) ?_)) | apply s_stepQ | (refine kQG ?_; (first | refine s_gyesQ rfl rfl rfl ?_ | refine s_gnoQ rfl rfl rfl rfl rfl ?_ | ((first | refine s_splitQ_d rfl rfl (fun h => ?_) (fun h => ?_) | refine s_splitQ_n rfl rfl (fun h => ?_) (fun h => ?_)) <;> (try (first | contradiction | (exfalso; omega)))) | refine s_splitQ_nb rfl rfl (fun h => ?_) (fun h => ?_) | refine s_splitQ rfl rfl (fun h => ?_) (fun h => ?_))) | refine lQ_then ?_ | refine lQ_ends ?_ | (refine kE ?_; (first | refine e_then_r ?_ | refine e_block_r ?_ | refine e_then_n ?_ | refine e_then_x ?_ | refine e_block_n ?_ | refine e_block_x ?_ | refine e_block_y rfl ?_)) | refine l_ends ?_)
  · exact e_round (j + 1) (by omega) ⟨slook_to rfl (vint_to (by push_cast; rfl)), (by repeat' first | exact trivial | refine ⟨rfl, ?_⟩)⟩ (fun w hw => by rw [points_take (by omega)]; exact hw.sub (selO_sub [false, true, true] _ _ rfl)) (by omega)
  · exact e_round (j + 1) (by omega) ⟨slook_to rfl (vint_to (by push_cast; rfl)), (by repeat' first | exact trivial | refine ⟨rfl, ?_⟩)⟩ (fun w hw => by rw [points_take_ok (by omega) (by assumption)]; exact hw.sub (selO_sub [false, true, true] _ _ rfl)) (by omega)
  · rw [List.take_of_length_le (by omega)] at hu
    refine s_leaveSF rfl rfl rfl fwA (fun w hw => ⟨_, _, rfl, ⟨_, rfl, hu⟩, hw.toFresh (H := H) gpA⟩)
set_option maxHeartbeats 4000000 in
theorem c_equalRects (u v : Value) (k l : List DRect) (W : World) (hu : RRects W u k) (hv : RRects W v l) : SYields Tryz.prog 76 #[u, v] (.bool (decide (k = l))) W := by
  have hkl := hu.len
  have hll := hv.len
  (first | apply SYields.mk | apply SYieldsF.mk | skip); refine s_enter Tryz.func76 rfl Tryz.ntmps76 rfl ?_
  repeat' (first | exact rfl | (apply kO; (first | exact ov_pure rfl | (apply kOBin; (first | exact aBin)) | (apply kOCall; (first | (apply kCallB; (first | exact aBlt | exact (ov_lenR (fun w hw => RRow.keep hu (hw.cells rfl)) rfl) | exact (ov_lenR (fun w hw => RRow.keep hv (hw.cells rfl)) rfl) | exact aLenR)))) | (apply kOLoad; (first | exact (ov_ldRZ (fun w hw => RRow.keep hu (hw.cells rfl)) rfl rfl (by omega) rfl) | exact (ov_ldRZ (fun w hw => RRow.keep hv (hw.cells rfl)) rfl rfl (by omega) rfl) | exact aLdF | exact aLdR)) | exact ov_fieldAddr rfl | (apply kOIdx; (first | exact (ov_idxR (fun w hw => RRow.keep hu (hw.cells rfl)) rfl rfl (by omega)) | exact (ov_idxR (fun w hw => RRow.keep hv (hw.cells rfl)) rfl rfl (by omega)) | exact aIdx)) | exact aRest | exact (ov_neRect rfl rfl) | exact aNew | exact (ov_field1 (ft := 31) rfl rfl rfl rfl))) | (refine kN ?_; (first | (refine kStore ?_; (first | refine s_store1 _ rfl rfl gpA rfl (by rfl) ?_ | refine s_storeS _ rfl rfl gpA rfl rfl (by rfl) ?_ | refine s_storeS _ rfl rfl gpA rfl (ones_img oiA) (by rfl) ?_)) | refine s_boxS rfl rfl (fun b hb => ?_) | refine s_allocS rfl (fun b hb => ?_) | refine s_box1 rfl rfl rfl (fun b hb => ?_) | refine s_alloc1 rfl rfl (fun b hb => ?_) | refine s_buildSlice0 rfl (fun b hb => ?_) | refine s_buildSlice rfl rfl rfl rfl rfl (fun b hb => ?_) | apply s_step)) | (refine kG ?_; (first | refine s_gyes rfl rfl rfl ?_ | refine s_gno rfl rfl rfl rfl rfl ?_ | ((first | refine s_split_d rfl rfl (fun h => ?_) (fun h => ?_) | refine s_split_n rfl rfl (fun h => ?_) (fun h => ?_)) <;> (try (first | contradiction | (exfalso; omega)))) | refine s_split_nb rfl rfl (fun h => ?_) (fun h => ?_) | refine s_split rfl rfl (fun h => ?_) (fun h => ?_))) | refine l_then ?_ | (refine kC ?_; (first | (refine c_loopV (ι := Nat) (fun j => j ≤ k.length ∧ eqTo k l DRect.zero j) (fun j => [(13, .int .i64 (j : Int))]) (fun _ => _) (fun j => k.length - j) 0 ⟨by omega, eqTo_zero _ _ _⟩ rfl (fun _ => rfl) ⟨rfl, trivial⟩ (fun w hw => hw) (fun j hj => ?_)) | refine c_seq ?_ | refine c_regionN rfl ?_ | refine c_ret ?_ | (refine kCond ?_; (first | refine c_cond_t rfl ?_ | refine c_cond_f rfl ?_ | ((first | refine c_cond_d rfl (fun h => ?_) (fun h => ?_) | refine c_cond_n rfl (fun h => ?_) (fun h => ?_)) <;> (try (first | contradiction | (exfalso; omega)))) | refine c_cond_nb rfl (fun h => ?_) (fun h => ?_) | refine c_cond rfl (fun h => ?_) (fun h => ?_))) | refine c_block ?_ | refine c_skip ?_ | refine c_exit ?_ | refine c_regionQN rfl rfl (by decide +kernel) ?_)) | apply s_stepQ | (refine kQG ?_; (first | refine s_gyesQ rfl rfl rfl ?_ | refine s_gnoQ rfl rfl rfl rfl rfl ?_ | ((first | refine s_splitQ_d rfl rfl (fun h => ?_) (fun h => ?_) | refine s_splitQ_n rfl rfl (fun h => ?_) (fun h => ?_)) <;> (try (first | contradiction | (exfalso; omega)))) | refine s_splitQ_nb rfl rfl (fun h => ?_) (fun h => ?_) | refine s_splitQ rfl rfl (fun h => ?_) (fun h => ?_))) | refine lQ_then ?_ | refine lQ_ends ?_ | (refine kE ?_; (first | refine e_then_r ?_ | refine e_block_r ?_ | refine e_then_n ?_ | refine e_then_x ?_ | refine e_block_n ?_ | refine e_block_x ?_ | refine e_block_y rfl ?_)) | refine l_ends ?_)
  all_goals first
    | exact s_leave1 rfl rfl (fun w hw => ⟨ret_false (ne_of_len (by omega)), hw.below⟩)
    | exact s_leave1 rfl rfl (fun w hw => ⟨ret_false (fun e => by subst e; contradiction), hw.below⟩)
    | exact e_round (j + 1) ⟨by omega, eqTo_next hj.2 (by assumption)⟩ ⟨rfl, (by repeat' first | exact trivial | refine ⟨rfl, ?_⟩)⟩ (fun w hw => hw) (by omega)
    | exact s_leave1 rfl rfl (fun w hw => ⟨ret_true (list_eq_of_getD DRect.zero (by omega) (fun i hi => hj.2 i (by omega))), hw.below⟩)
set_option maxHeartbeats 4000000 in
theorem c_iregionOk (v : Value) (l : List DRect) (W : World) (hv : RRects W v l) : SYields Tryz.prog 40 #[vReg v] (.bool (decide (regionOk l))) W := by
  (first | apply SYields.mk | apply SYieldsF.mk | skip); refine s_enter Tryz.func40 rfl Tryz.ntmps40 rfl ?_
  repeat' (first | exact rfl | (apply kO; (first | exact ov_pure rfl | (apply kOBin; (first | exact aBin)) | (apply kOCall; (first | (apply kCallF; (first | exact (ov_call rfl (fun w hw => c_equalRects _ _ (canon (points l)) l w (ORects.rd (by assumption) (hfA hw)) (RVs.keep hv (hw.cells rfl)))))) | (apply kCallB; (first | exact aBlt | exact aLenR)))) | (apply kOLoad; (first | exact aLdF | exact aLdR)) | exact ov_fieldAddr rfl | (apply kOIdx; (first | exact aIdx)) | exact aRest | exact (ov_field1 (ft := 41) rfl rfl rfl rfl) | exact aNew | exact (ov_field1 (ft := 31) rfl rfl rfl rfl))) | (refine kN ?_; (first | (refine kCall ?_; (first | (refine kWFn 77 ?_; (refine s_callF (fun u H => OReg u (canon (points l)) H) rfl (fun w hw => c_iregionOf v l w (hv.keep (hw.cells rfl))) rfl (fun u H hu => ?_); obtain ⟨d', rfl, hu⟩ := hu)) | apply s_step)) | (refine kStore ?_; (first | refine s_store1 _ rfl rfl gpA rfl (by rfl) ?_ | refine s_storeS _ rfl rfl gpA rfl rfl (by rfl) ?_ | refine s_storeS _ rfl rfl gpA rfl (ones_img oiA) (by rfl) ?_)) | refine s_boxS rfl rfl (fun b hb => ?_) | refine s_allocS rfl (fun b hb => ?_) | refine s_box1 rfl rfl rfl (fun b hb => ?_) | refine s_alloc1 rfl rfl (fun b hb => ?_) | refine s_buildSlice0 rfl (fun b hb => ?_) | refine s_buildSlice rfl rfl rfl rfl rfl (fun b hb => ?_) | apply s_step)) | (refine kG ?_; (first | refine s_gyes rfl rfl rfl ?_ | refine s_gno rfl rfl rfl rfl rfl ?_ | ((first | refine s_split_d rfl rfl (fun h => ?_) (fun h => ?_) | refine s_split_n rfl rfl (fun h => ?_) (fun h => ?_)) <;> (try (first | contradiction | (exfalso; omega)))) | refine s_split_nb rfl rfl (fun h => ?_) (fun h => ?_) | refine s_split rfl rfl (fun h => ?_) (fun h => ?_))) | (refine kS ?_; (first | refine h_exec rfl ?_ | refine h_take_nil rfl rfl rfl ?_ | refine h_take_pick rfl rfl rfl ?_ | refine h_nil ?_ | refine h_alt ?_ ?_ | apply h_take)) | (refine kBack ?_; (first | refine h_back_last rfl ?_ | refine h_backN rfl subA ?_)) | refine l_then ?_ | (refine kC ?_; (first | (refine kReg 1 ?_; refine c_regionSN (SPlan.take 0 (SPlan.take 1 (SPlan.take 4 (SPlan.take 5 (SPlan.run 2 (SPlan.take 3 (SPlan.run 6 (SPlan.take 7 SPlan.done)))))))) none rfl rfl (by decide +kernel) ?_) | refine c_seq ?_ | refine c_regionN rfl ?_ | refine c_ret ?_ | (refine kCond ?_; (first | refine c_cond_t rfl ?_ | refine c_cond_f rfl ?_ | ((first | refine c_cond_d rfl (fun h => ?_) (fun h => ?_) | refine c_cond_n rfl (fun h => ?_) (fun h => ?_)) <;> (try (first | contradiction | (exfalso; omega)))) | refine c_cond_nb rfl (fun h => ?_) (fun h => ?_) | refine c_cond rfl (fun h => ?_) (fun h => ?_))) | refine c_block ?_ | refine c_skip ?_ | refine c_exit ?_ | refine c_regionQN rfl rfl (by decide +kernel) ?_)) | apply s_stepQ | (refine kQG ?_; (first | refine s_gyesQ rfl rfl rfl ?_ | refine s_gnoQ rfl rfl rfl rfl rfl ?_ | ((first | refine s_splitQ_d rfl rfl (fun h => ?_) (fun h => ?_) | refine s_splitQ_n rfl rfl (fun h => ?_) (fun h => ?_)) <;> (try (first | contradiction | (exfalso; omega)))) | refine s_splitQ_nb rfl rfl (fun h => ?_) (fun h => ?_) | refine s_splitQ rfl rfl (fun h => ?_) (fun h => ?_))) | refine lQ_then ?_ | refine lQ_ends ?_ | (refine kE ?_; (first | refine e_then_r ?_ | refine e_block_r ?_ | refine e_then_n ?_ | refine e_then_x ?_ | refine e_block_n ?_ | refine e_block_x ?_ | refine e_block_y rfl ?_)) | refine l_ends ?_)
  all_goals refine s_leave1 rfl rfl (fun w hw => ⟨ret_dec Iff.rfl, hw.below⟩)
set_option maxHeartbeats 4000000 in
theorem c_iareaOf (v : Value) (l : List DRect) (W : World) (hv : RRects W v l) : SYields Tryz.prog 15 #[vReg v] (.int .i64 (areaOf l)) W := by
  have hll := hv.len
  have hv' := hv.form
  obtain ⟨_, _, rfl⟩ := hv'
  by_cases hok : regionOk l
  · have h128 := hok.length
    have hbd := fun j => area_take_bd hok j
    have hab := fun (j : Nat) (hj : j < l.length) => inScreen_area (getD_inScreen hok hj)
    (first | apply SYields.mk | apply SYieldsF.mk | skip); refine s_enter Tryz.func15 rfl Tryz.ntmps15 rfl ?_
    repeat' (first | exact rfl | (apply kO; (first | exact ov_pure rfl | (apply kOBin; (first | exact aBin | exact (ov_mul rfl rfl (by have := hab j (by omega); (try simp only [Int.toNat_natCast]); omega)) | exact (ov_add rfl rfl (by have := hab j (by omega); have := hbd j; (try simp only [Int.toNat_natCast]); omega)))) | (apply kOCall; (first | (apply kCallF; (first | exact (ov_call rfl (fun w hw => c_iregionOk _ l w (hv.keep (hw.cells rfl)))))) | (apply kCallB; (first | exact aBlt | exact aLenR)))) | (apply kOLoad; (first | exact (ov_ldRZ (fun w hw => RRow.keep hv (hw.cells rfl)) rfl rfl (by omega) rfl) | exact aLdF | exact aLdR)) | exact ov_fieldAddr rfl | (apply kOIdx; (first | exact (ov_idxR (fun w hw => RRow.keep hv (hw.cells rfl)) rfl rfl (by omega)) | exact aIdx)) | exact aRest | exact aNew | exact (ov_field1 (ft := 31) rfl rfl rfl rfl))) | (refine kN ?_; (first | (refine kStore ?_; (first | refine s_store1 _ rfl rfl gpA rfl (by rfl) ?_ | refine s_storeS _ rfl rfl gpA rfl rfl (by rfl) ?_ | refine s_storeS _ rfl rfl gpA rfl (ones_img oiA) (by rfl) ?_)) | refine s_boxS rfl rfl (fun b hb => ?_) | refine s_allocS rfl (fun b hb => ?_) | refine s_box1 rfl rfl rfl (fun b hb => ?_) | refine s_alloc1 rfl rfl (fun b hb => ?_) | refine s_buildSlice0 rfl (fun b hb => ?_) | refine s_buildSlice rfl rfl rfl rfl rfl (fun b hb => ?_) | apply s_step)) | (refine kG ?_; (first | refine s_gyes rfl rfl rfl ?_ | refine s_gno rfl rfl rfl rfl rfl ?_ | ((first | refine s_split_d rfl rfl (fun h => ?_) (fun h => ?_) | refine s_split_n rfl rfl (fun h => ?_) (fun h => ?_)) <;> (try (first | contradiction | (exfalso; omega) | (exfalso; exact absurd hok (by assumption))))) | refine s_split_nb rfl rfl (fun h => ?_) (fun h => ?_) | refine s_split rfl rfl (fun h => ?_) (fun h => ?_))) | refine l_then ?_ | (refine kC ?_; (first | (refine c_loopV (ι := Nat) (fun j => j ≤ l.length) (fun j => [(3, .int .i64 (area (l.take j))), (12, .int .i64 (j : Int))]) (fun _ => [_]) (fun j => l.length - j) 0 (by omega) rfl (fun _ => rfl) ⟨rfl, rfl, trivial⟩ (fun w hw => hw) (fun j hj => ?_)) | refine c_seq ?_ | refine c_regionN rfl ?_ | refine c_ret ?_ | (refine kCond ?_; (first | refine c_cond_t rfl ?_ | refine c_cond_f rfl ?_ | ((first | refine c_cond_d rfl (fun h => ?_) (fun h => ?_) | refine c_cond_n rfl (fun h => ?_) (fun h => ?_)) <;> (try (first | contradiction | (exfalso; omega) | (exfalso; exact absurd hok (by assumption))))) | refine c_cond_nb rfl (fun h => ?_) (fun h => ?_) | refine c_cond rfl (fun h => ?_) (fun h => ?_))) | refine c_block ?_ | refine c_skip ?_ | refine c_exit ?_ | refine c_regionQN rfl rfl (by decide +kernel) ?_)) | apply s_stepQ | (refine kQG ?_; (first | refine s_gyesQ rfl rfl rfl ?_ | refine s_gnoQ rfl rfl rfl rfl rfl ?_ | ((first | refine s_splitQ_d rfl rfl (fun h => ?_) (fun h => ?_) | refine s_splitQ_n rfl rfl (fun h => ?_) (fun h => ?_)) <;> (try (first | contradiction | (exfalso; omega) | (exfalso; exact absurd hok (by assumption))))) | refine s_splitQ_nb rfl rfl (fun h => ?_) (fun h => ?_) | refine s_splitQ rfl rfl (fun h => ?_) (fun h => ?_))) | refine lQ_then ?_ | refine lQ_ends ?_ | (refine kE ?_; (first | refine e_then_r ?_ | refine e_block_r ?_ | refine e_then_n ?_ | refine e_then_x ?_ | refine e_block_n ?_ | refine e_block_x ?_ | refine e_block_y rfl ?_)) | refine l_ends ?_)
    all_goals first
      | exact e_round (j + 1) (by omega) ⟨slook_to rfl (vint_to (area_take_succ (by omega)).symm), slook_to rfl (vint_to (by push_cast; rfl)), (by repeat' first | exact trivial | refine ⟨rfl, ?_⟩)⟩ (fun w hw => hw.sub (selO_sub [false, true] _ _ rfl)) (by omega)
      | exact s_leave1 rfl rfl (fun w hw => ⟨ret_int (by unfold areaOf; rw [if_pos hok, List.take_of_length_le (by omega)]), hw.below⟩)
  · (first | apply SYields.mk | apply SYieldsF.mk | skip); refine s_enter Tryz.func15 rfl Tryz.ntmps15 rfl ?_
    repeat' (first | exact rfl | (apply kO; (first | exact ov_pure rfl | (apply kOBin; (first | exact aBin)) | (apply kOCall; (first | (apply kCallF; (first | exact (ov_call rfl (fun w hw => c_iregionOk _ l w (hv.keep (hw.cells rfl)))))) | (apply kCallB; (first | exact aBlt | exact aLenR)))) | (apply kOLoad; (first | exact aLdF | exact aLdR)) | exact ov_fieldAddr rfl | (apply kOIdx; (first | exact aIdx)) | exact aRest | exact aNew | exact (ov_field1 (ft := 31) rfl rfl rfl rfl))) | (refine kN ?_; (first | (refine kStore ?_; (first | refine s_store1 _ rfl rfl gpA rfl (by rfl) ?_ | refine s_storeS _ rfl rfl gpA rfl rfl (by rfl) ?_ | refine s_storeS _ rfl rfl gpA rfl (ones_img oiA) (by rfl) ?_)) | refine s_boxS rfl rfl (fun b hb => ?_) | refine s_allocS rfl (fun b hb => ?_) | refine s_box1 rfl rfl rfl (fun b hb => ?_) | refine s_alloc1 rfl rfl (fun b hb => ?_) | refine s_buildSlice0 rfl (fun b hb => ?_) | refine s_buildSlice rfl rfl rfl rfl rfl (fun b hb => ?_) | apply s_step)) | (refine kG ?_; (first | refine s_gyes rfl rfl rfl ?_ | refine s_gno rfl rfl rfl rfl rfl ?_ | ((first | refine s_split_d rfl rfl (fun h => ?_) (fun h => ?_) | refine s_split_n rfl rfl (fun h => ?_) (fun h => ?_)) <;> (try (first | contradiction | (exfalso; omega) | (exfalso; exact absurd (by assumption) hok)))) | refine s_split_nb rfl rfl (fun h => ?_) (fun h => ?_) | refine s_split rfl rfl (fun h => ?_) (fun h => ?_))) | refine l_then ?_ | (refine kC ?_; (first | refine c_seq ?_ | refine c_regionN rfl ?_ | refine c_ret ?_ | (refine kCond ?_; (first | refine c_cond_t rfl ?_ | refine c_cond_f rfl ?_ | ((first | refine c_cond_d rfl (fun h => ?_) (fun h => ?_) | refine c_cond_n rfl (fun h => ?_) (fun h => ?_)) <;> (try (first | contradiction | (exfalso; omega) | (exfalso; exact absurd (by assumption) hok)))) | refine c_cond_nb rfl (fun h => ?_) (fun h => ?_) | refine c_cond rfl (fun h => ?_) (fun h => ?_))) | refine c_block ?_ | refine c_skip ?_ | refine c_exit ?_ | refine c_regionQN rfl rfl (by decide +kernel) ?_)) | apply s_stepQ | (refine kQG ?_; (first | refine s_gyesQ rfl rfl rfl ?_ | refine s_gnoQ rfl rfl rfl rfl rfl ?_ | ((first | refine s_splitQ_d rfl rfl (fun h => ?_) (fun h => ?_) | refine s_splitQ_n rfl rfl (fun h => ?_) (fun h => ?_)) <;> (try (first | contradiction | (exfalso; omega) | (exfalso; exact absurd (by assumption) hok)))) | refine s_splitQ_nb rfl rfl (fun h => ?_) (fun h => ?_) | refine s_splitQ rfl rfl (fun h => ?_) (fun h => ?_))) | refine lQ_then ?_ | refine lQ_ends ?_ | (refine kE ?_; (first | refine e_then_r ?_ | refine e_block_r ?_ | refine e_then_n ?_ | refine e_then_x ?_ | refine e_block_n ?_ | refine e_block_x ?_ | refine e_block_y rfl ?_)) | refine l_ends ?_)
    all_goals exact s_leave1 rfl rfl (fun w hw => ⟨ret_int (by unfold areaOf; rw [if_neg hok]), hw.below⟩)
end Go.Proofs.YtpcammhmgleonaaGreat
namespace Sx
theorem take_has {l : List Int} {j : Nat} {x : Int} (hj : j ≤ l.length) : x ∈ l.take j ↔ ∃ i, i < j ∧ l.getD i 0 = x := by
  constructor
  · intro h
    obtain ⟨i, hi, e⟩ := List.mem_iff_getElem.1 h
    rw [List.length_take] at hi
    rw [List.getElem_take] at e
    exact ⟨i, by omega, by rw [List.getD_eq_getElem?_getD, List.getElem?_eq_getElem (by omega)]; exact e⟩
  · rintro ⟨i, hi, e⟩
    rw [List.getD_eq_getElem?_getD, List.getElem?_eq_getElem (by omega)] at e
    exact List.mem_iff_getElem.2 ⟨i, by rw [List.length_take]; omega, by rw [List.getElem_take]; exact e⟩
def hasTo (l : List Int) (x : Int) (j : Nat) : Prop := ∀ i, i < j → l.getD i 0 ≠ x
theorem hasTo_zero (l : List Int) (x : Int) : hasTo l x 0 := fun i hi => by omega
theorem hasTo_next {l : List Int} {x : Int} {j : Nat} (h : hasTo l x j) (hj : ¬ x = l.getD j 0) : hasTo l x (j + 1) := fun i hi => by
  by_cases e : i = j
  · subst e; exact fun e => hj e.symm
  · exact h i (by omega)
theorem hasTo_all {l : List Int} {x : Int} {j : Nat} (h : hasTo l x j) (hj : l.length ≤ j) : ¬ x ∈ l := fun hm => by
  obtain ⟨i, hi, e⟩ := List.mem_iff_getElem.1 hm
  exact h i (by omega) (by rw [List.getD_eq_getElem?_getD, List.getElem?_eq_getElem hi]; exact e)
theorem has_at {l : List Int} {x : Int} {j : Nat} (hj : j < l.length) (h : x = l.getD j 0) : x ∈ l := by
  rw [h, List.getD_eq_getElem?_getD, List.getElem?_eq_getElem hj]; exact List.getElem_mem hj
theorem chain_at {c : DChain} (h : c.ok) {j : Nat} (hj : j < c.bufs.length) : (c.bufs.getD j DImg.zero).ok ∧ (c.bufs.getD j DImg.zero).W = c.scene.W ∧ (c.bufs.getD j DImg.zero).H = c.scene.H ∧ (0 ≤ c.ages.getD j 0 ∧ c.ages.getD j 0 ≤ 3 ∧ c.ages.getD j 0 ≤ c.dams.length + 1) ∧ (c.ages.getD j 0 ≠ 0 → ¬ c.ages.getD j 0 ∈ c.ages.take j) ∧ ∀ i, i < j → c.ages.getD i 0 = c.ages.getD j 0 → c.ages.getD j 0 = 0 := by
  have q := h.2.2.2.2.1 j hj
  refine ⟨q.1, q.2.1, q.2.2.1, q.2.2.2.1, fun hne hm => ?_, q.2.2.2.2⟩
  obtain ⟨i, hi, e⟩ := (take_has (by rw [h.2.2.1]; omega)).1 hm
  exact hne (q.2.2.2.2 i hi e)
theorem bufOk_of {c : DChain} {j : Nat} (h1 : (c.bufs.getD j DImg.zero).ok) (h2 : (c.bufs.getD j DImg.zero).W = c.scene.W) (h3 : (c.bufs.getD j DImg.zero).H = c.scene.H) (h4 : 0 ≤ c.ages.getD j 0 ∧ c.ages.getD j 0 ≤ 3 ∧ c.ages.getD j 0 ≤ c.dams.length + 1) (h5 : ∀ i, i < j → c.ages.getD i 0 = c.ages.getD j 0 → c.ages.getD j 0 = 0) : c.bufOk j := ⟨h1, h2, h3, h4, h5⟩
theorem bufOk_new {c : DChain} {j : Nat} (hj : j ≤ c.ages.length) (h1 : (c.bufs.getD j DImg.zero).ok) (h2 : (c.bufs.getD j DImg.zero).W = c.scene.W) (h3 : (c.bufs.getD j DImg.zero).H = c.scene.H) (h4 : 0 ≤ c.ages.getD j 0 ∧ c.ages.getD j 0 ≤ 3 ∧ c.ages.getD j 0 ≤ c.dams.length + 1) (h5 : c.ages.getD j 0 = 0 ∨ ¬ c.ages.getD j 0 ∈ c.ages.take j) : c.bufOk j :=
  bufOk_of h1 h2 h3 h4 (fun i hi e => by
    rcases h5 with h5 | h5
    · exact h5
    · exact absurd ((take_has hj).2 ⟨i, hi, e⟩) h5)
theorem upto_next {p : Nat → Prop} {j : Nat} (h : ∀ k, k < j → p k) (hj : p j) : ∀ k, k < j + 1 → p k := fun k hk => by
  by_cases e : k = j
  · subst e; exact hj
  · exact h k (by omega)
def fIx (l : List Int) (x : Int) : Nat → Nat → Int
  | 0, _ => -1
  | f + 1, k => if k < l.length then (if l.getD k 0 = x then (k : Int) else fIx l x f (k + 1)) else -1
def firstIx (l : List Int) (x : Int) : Int := fIx l x l.length 0
theorem fIx_skip {l : List Int} {x : Int} : ∀ j, j ≤ l.length → hasTo l x j → firstIx l x = fIx l x (l.length - j) j
  | 0, _, _ => rfl
  | j + 1, hj, h => by
    rw [fIx_skip j (by omega) (fun i hi => h i (by omega)), show l.length - j = (l.length - (j + 1)) + 1 by omega]
    show (if j < l.length then _ else _) = _
    rw [if_pos (by omega), if_neg (h j (by omega))]
theorem firstIx_at {l : List Int} {x : Int} {j : Nat} (hj : j < l.length) (h : hasTo l x j) (e : l.getD j 0 = x) : firstIx l x = j := by
  rw [fIx_skip j (by omega) h, show l.length - j = (l.length - (j + 1)) + 1 by omega]
  show (if j < l.length then _ else _) = _
  rw [if_pos hj, if_pos e]
theorem firstIx_none {l : List Int} {x : Int} (h : hasTo l x l.length) : firstIx l x = -1 := by
  rw [fIx_skip l.length (Nat.le_refl _) h, Nat.sub_self]; rfl
theorem firstIx_mem (l : List Int) (x : Int) : 0 ≤ firstIx l x ↔ x ∈ l := by
  rcases first_or (p := fun i => l.getD i 0 = x) l.length with h | ⟨j, hj, e, h⟩
  · rw [firstIx_none h]
    exact ⟨fun hh => by omega, fun hm => absurd hm (hasTo_all h (Nat.le_refl _))⟩
  · rw [firstIx_at hj h e]
    exact ⟨fun _ => has_at hj e.symm, fun _ => by omega⟩
end Sx
namespace Go.Proofs.YtpcammhmgleonaaGreat
open Go Sx
theorem RVs.one' {w : World} {v : Value} {l : List DRect} (h : RRects w v l) : v.oneCell' = true := RRects.one h
attribute [local irreducible] Exit.then Exit.inBlock bodyPost OVs OInts
theorem c_sindex (v : Value) (l : List Int) (x : Int) (W : World) (hv : RInts W v l) : SYields Tryz.prog 75 #[v, .int .i64 x] (.int .i64 (firstIx l x)) W := by
  have hk := hv.len
  (first | apply SYields.mk | apply SYieldsF.mk | skip); refine s_enter Tryz.func75 rfl Tryz.ntmps75 rfl ?_
  repeat' (first | exact rfl | (apply kO; (first | exact ov_pure rfl | (apply kOBin; (first | exact aBin)) | (apply kOCall; (first | (apply kCallB; (first | exact aBlt | exact (ov_lenR (fun w hw => hv.keep (hw.cells rfl)) rfl) | exact aLenR)))) | (apply kOLoad; (first | exact (ov_ldR0 (fun w hw => hv.keep (hw.cells rfl)) rfl rfl (by omega) rfl) | exact aLdF | exact aLdR)) | exact ov_fieldAddr rfl | (apply kOIdx; (first | exact (ov_idxR (fun w hw => hv.keep (hw.cells rfl)) rfl rfl (by omega)) | exact aIdx)) | exact aRest | exact aNew | exact (ov_field1 (ft := 31) rfl rfl rfl rfl))) | (refine kN ?_; (first | (refine kStore ?_; (first | refine s_store1 _ rfl rfl gpA rfl (by rfl) ?_ | refine s_storeS _ rfl rfl gpA rfl rfl (by rfl) ?_ | refine s_storeS _ rfl rfl gpA rfl (ones_img oiA) (by rfl) ?_)) | refine s_boxS rfl rfl (fun b hb => ?_) | refine s_allocS rfl (fun b hb => ?_) | refine s_box1 rfl rfl rfl (fun b hb => ?_) | refine s_alloc1 rfl rfl (fun b hb => ?_) | refine s_buildSlice0 rfl (fun b hb => ?_) | refine s_buildSlice rfl rfl rfl rfl rfl (fun b hb => ?_) | apply s_step)) | (refine kG ?_; (first | refine s_gyes rfl rfl rfl ?_ | refine s_gno rfl rfl rfl rfl rfl ?_ | ((first | refine s_split_d rfl rfl (fun h => ?_) (fun h => ?_) | refine s_split_n rfl rfl (fun h => ?_) (fun h => ?_)) <;> (try (first | contradiction | (exfalso; omega)))) | refine s_split_nb rfl rfl (fun h => ?_) (fun h => ?_) | refine s_split rfl rfl (fun h => ?_) (fun h => ?_))) | refine l_then ?_ | (refine kC ?_; (first | (refine c_loopV (ι := Nat) (fun j => j ≤ l.length ∧ hasTo l x j) (fun j => [(8, .int .i64 (j : Int))]) (fun _ => []) (fun j => l.length - j) 0 ⟨by omega, hasTo_zero _ _⟩ rfl (fun _ => rfl) ⟨rfl, trivial⟩ (fun w hw => hw) (fun j hj => ?_)) | refine c_seq ?_ | refine c_regionN rfl ?_ | refine c_ret ?_ | (refine kCond ?_; (first | refine c_cond_t rfl ?_ | refine c_cond_f rfl ?_ | ((first | refine c_cond_d rfl (fun h => ?_) (fun h => ?_) | refine c_cond_n rfl (fun h => ?_) (fun h => ?_)) <;> (try (first | contradiction | (exfalso; omega)))) | refine c_cond_nb rfl (fun h => ?_) (fun h => ?_) | refine c_cond rfl (fun h => ?_) (fun h => ?_))) | refine c_block ?_ | refine c_skip ?_ | refine c_exit ?_ | refine c_regionQN rfl rfl (by decide +kernel) ?_)) | apply s_stepQ | (refine kQG ?_; (first | refine s_gyesQ rfl rfl rfl ?_ | refine s_gnoQ rfl rfl rfl rfl rfl ?_ | ((first | refine s_splitQ_d rfl rfl (fun h => ?_) (fun h => ?_) | refine s_splitQ_n rfl rfl (fun h => ?_) (fun h => ?_)) <;> (try (first | contradiction | (exfalso; omega)))) | refine s_splitQ_nb rfl rfl (fun h => ?_) (fun h => ?_) | refine s_splitQ rfl rfl (fun h => ?_) (fun h => ?_))) | refine lQ_then ?_ | refine lQ_ends ?_ | (refine kE ?_; (first | refine e_then_r ?_ | refine e_block_r ?_ | refine e_then_n ?_ | refine e_then_x ?_ | refine e_block_n ?_ | refine e_block_x ?_ | refine e_block_y rfl ?_)) | refine l_ends ?_)
  all_goals try simp only [Int.toNat_natCast] at *
  · have e : x = l.getD j 0 := by assumption
    exact s_leave1 rfl rfl (fun w hw => ⟨ret_int (firstIx_at (by omega) hj.2 e.symm).symm, hw.below⟩)
  · exact e_round (j + 1) ⟨by omega, hasTo_next hj.2 (by assumption)⟩ ⟨rfl, (by repeat' first | exact trivial | refine ⟨rfl, ?_⟩)⟩ (fun w hw => hw) (by omega)
  · obtain rfl : j = l.length := by omega
    exact s_leave1 rfl rfl (fun w hw => ⟨ret_int (firstIx_none hj.2).symm, hw.below⟩)
theorem c_contains (v : Value) (l : List Int) (x : Int) (W : World) (hv : RInts W v l) : SYields Tryz.prog 39 #[v, .int .i64 x] (.bool (decide (x ∈ l))) W := by
  (first | apply SYields.mk | apply SYieldsF.mk | skip); refine s_enter Tryz.func39 rfl Tryz.ntmps39 rfl ?_
  repeat' (first | exact rfl | (apply kO; (first | exact ov_pure rfl | (apply kOBin; (first | exact aBin)) | (apply kOCall; (first | (apply kCallF; (first | exact (ov_call rfl (fun w hw => c_sindex _ l _ w (hv.keep (hw.cells rfl)))))) | (apply kCallB; (first | exact aBlt | exact aLenR)))) | (apply kOLoad; (first | exact aLdF | exact aLdR)) | exact ov_fieldAddr rfl | (apply kOIdx; (first | exact aIdx)) | exact aRest | exact aNew | exact (ov_field1 (ft := 31) rfl rfl rfl rfl))) | (refine kN ?_; (first | (refine kStore ?_; (first | refine s_store1 _ rfl rfl gpA rfl (by rfl) ?_ | refine s_storeS _ rfl rfl gpA rfl rfl (by rfl) ?_ | refine s_storeS _ rfl rfl gpA rfl (ones_img oiA) (by rfl) ?_)) | refine s_boxS rfl rfl (fun b hb => ?_) | refine s_allocS rfl (fun b hb => ?_) | refine s_box1 rfl rfl rfl (fun b hb => ?_) | refine s_alloc1 rfl rfl (fun b hb => ?_) | refine s_buildSlice0 rfl (fun b hb => ?_) | refine s_buildSlice rfl rfl rfl rfl rfl (fun b hb => ?_) | apply s_step)) | (refine kG ?_; (first | refine s_gyes rfl rfl rfl ?_ | refine s_gno rfl rfl rfl rfl rfl ?_ | ((first | refine s_split_d rfl rfl (fun h => ?_) (fun h => ?_) | refine s_split_n rfl rfl (fun h => ?_) (fun h => ?_)) <;> (try (first | contradiction | (exfalso; omega)))) | refine s_split_nb rfl rfl (fun h => ?_) (fun h => ?_) | refine s_split rfl rfl (fun h => ?_) (fun h => ?_))) | refine l_then ?_ | (refine kC ?_; (first | refine c_seq ?_ | refine c_regionN rfl ?_ | refine c_ret ?_ | (refine kCond ?_; (first | refine c_cond_t rfl ?_ | refine c_cond_f rfl ?_ | ((first | refine c_cond_d rfl (fun h => ?_) (fun h => ?_) | refine c_cond_n rfl (fun h => ?_) (fun h => ?_)) <;> (try (first | contradiction | (exfalso; omega)))) | refine c_cond_nb rfl (fun h => ?_) (fun h => ?_) | refine c_cond rfl (fun h => ?_) (fun h => ?_))) | refine c_block ?_ | refine c_skip ?_ | refine c_exit ?_ | refine c_regionQN rfl rfl (by decide +kernel) ?_)) | apply s_stepQ | (refine kQG ?_; (first | refine s_gyesQ rfl rfl rfl ?_ | refine s_gnoQ rfl rfl rfl rfl rfl ?_ | ((first | refine s_splitQ_d rfl rfl (fun h => ?_) (fun h => ?_) | refine s_splitQ_n rfl rfl (fun h => ?_) (fun h => ?_)) <;> (try (first | contradiction | (exfalso; omega)))) | refine s_splitQ_nb rfl rfl (fun h => ?_) (fun h => ?_) | refine s_splitQ rfl rfl (fun h => ?_) (fun h => ?_))) | refine lQ_then ?_ | refine lQ_ends ?_ | (refine kE ?_; (first | refine e_then_r ?_ | refine e_block_r ?_ | refine e_then_n ?_ | refine e_then_x ?_ | refine e_block_n ?_ | refine e_block_x ?_ | refine e_block_y rfl ?_)) | refine l_ends ?_)
  all_goals refine s_leave1 rfl rfl (fun w hw => ⟨?_, hw.below⟩)
  all_goals exact ret_dec (firstIx_mem l x)
set_option maxHeartbeats 4000000 in
theorem c_ichainOk (c : DChain) (vb va vd vs : Value) (W : World) (hc : RCh W c vb va vd vs) : SYields Tryz.prog 14 #[vChain c vb va vd vs] (.bool (decide c.ok)) W := by
  obtain ⟨r1, r2, r3, r4⟩ := hc
  obtain ⟨db, r1⟩ := r1
  obtain ⟨dd, r3⟩ := r3
  have f1 := r1.form
  obtain ⟨b1, b2, rfl⟩ := f1
  have f2 := r2.form
  obtain ⟨a1, a2, rfl⟩ := f2
  have f3 := r3.form
  obtain ⟨d1, d2, rfl⟩ := f3
  have hbl := r1.row.len
  have hal := r2.len
  have hdl := r3.row.len
  have hra : c.ages.length ≤ a2 := RRow.room r2
  have hrow := fun (i : Nat) (hi : i ≤ c.ages.length) => (show RInts W (.slice a1 i a2) (c.ages.take i) from (rrow_hi r2 hi).congr (by rw [List.length_take]; omega) (fun k hk => by simp [List.getD_eq_getElem?_getD, hk]))
  (first | apply SYields.mk | apply SYieldsF.mk | skip); refine s_enter Tryz.func14 rfl Tryz.ntmps14 rfl ?_
  repeat' (first | exact rfl | (apply kO; (first | exact ov_pure rfl | (apply kOBin; (first | exact aBin)) | (apply kOCall; (first | (apply kCallF; (first | exact (ov_call rfl (fun w hw => c_isceneOk c.scene _ w (r4.keep (hw.cells rfl)))) | exact (ov_call rfl (fun w hw => c_within _ _ _ w)) | exact (ov_call rfl (fun w hw => c_iimageOk (c.bufs.getD j DImg.zero) _ w (RInts.keep (r1.rd _ (by omega)) (hw.cells rfl)))) | exact (ov_call rfl (fun w hw => c_iregionOk _ (c.dams.getD i []) w (eReg.keep (r3.rd _ (by omega)) (hw.cells rfl)))) | exact (ov_call rfl (fun w hw => c_contains _ (c.ages.take j) _ w ((hrow j (by omega)).keep (hw.cells rfl)))))) | (apply kCallB; (first | exact aBlt | exact (ov_lenR (fun w hw => r1.row.keep (hw.cells rfl)) rfl) | exact aLenR)))) | (apply kOLoad; (first | exact (ov_ldRZ (fun w hw => r1.row.keep (hw.cells rfl)) rfl rfl (by omega) rfl) | exact (ov_ldR0 (fun w hw => r2.keep (hw.cells rfl)) rfl rfl (by omega) rfl) | exact (ov_ldRZ (fun w hw => r3.row.keep (hw.cells rfl)) rfl rfl (by omega) rfl) | exact aLdF | exact aLdR)) | exact ov_fieldAddr rfl | (apply kOIdx; (first | exact (ov_idxR (fun w hw => r1.row.keep (hw.cells rfl)) rfl rfl (by omega)) | exact (ov_idxR (fun w hw => r2.keep (hw.cells rfl)) rfl rfl (by omega)) | exact (ov_idxR (fun w hw => r3.row.keep (hw.cells rfl)) rfl rfl (by omega)) | exact aIdx)) | exact aRest | (apply kSlice; exact (ov_sliceHi rfl rfl (by omega))) | exact aNew | exact (ov_field1 (ft := 31) rfl rfl rfl rfl))) | (refine kN ?_; (first | (refine kStore ?_; (first | (refine s_storeS _ rfl rfl gpA rfl (eImg_ones (RInts.one (r1.rd _ (by omega)))) (by rfl) ?_) | (refine s_storeS _ rfl rfl gpA rfl (eReg_ones (RVs.one' (r3.rd _ (by omega)))) (by rfl) ?_) | refine s_store1 _ rfl rfl gpA rfl (by rfl) ?_ | refine s_storeS _ rfl rfl gpA rfl rfl (by rfl) ?_ | refine s_storeS _ rfl rfl gpA rfl (ones_img oiA) (by rfl) ?_)) | refine s_boxS rfl rfl (fun b hb => ?_) | refine s_allocS rfl (fun b hb => ?_) | refine s_box1 rfl rfl rfl (fun b hb => ?_) | refine s_alloc1 rfl rfl (fun b hb => ?_) | refine s_buildSlice0 rfl (fun b hb => ?_) | refine s_buildSlice rfl rfl rfl rfl rfl (fun b hb => ?_) | apply s_step)) | (refine kG ?_; (first | refine s_gyes rfl rfl rfl ?_ | refine s_gno rfl rfl rfl rfl rfl ?_ | ((first | refine s_split_d rfl rfl (fun h => ?_) (fun h => ?_) | refine s_split_n rfl rfl (fun h => ?_) (fun h => ?_)) <;> (try (first | contradiction | (exfalso; omega)))) | refine s_split_nb rfl rfl (fun h => ?_) (fun h => ?_) | refine s_split rfl rfl (fun h => ?_) (fun h => ?_))) | refine l_then ?_ | (refine kC ?_; (first | (refine kLoopR 4 ?_; refine c_loopV (ι := Nat) (fun j => j ≤ c.bufs.length ∧ ∀ k, k < j → c.bufOk k) (fun j => [(37, .int .i64 (j : Int))]) (fun j => [_]) (fun j => c.bufs.length - j) 0 ⟨by omega, fun k hk => by omega⟩ rfl (fun _ => rfl) ⟨rfl, trivial⟩ (fun w hw => hw) (fun j hj => ?_)) | (refine kLoopR 13 ?_; refine c_loopV (ι := Nat) (fun i => i ≤ c.dams.length ∧ ∀ k, k < i → regionOk (c.dam k)) (fun i => [(90, .int .i64 (i : Int))]) (fun i => [_]) (fun i => c.dams.length - i) 0 ⟨by omega, fun k hk => by omega⟩ rfl (fun _ => rfl) ⟨rfl, trivial⟩ (fun w hw => hw) (fun i hi => ?_)) | refine c_seq ?_ | refine c_regionN rfl ?_ | refine c_ret ?_ | (refine kCond ?_; (first | refine c_cond_t rfl ?_ | refine c_cond_f rfl ?_ | ((first | refine c_cond_d rfl (fun h => ?_) (fun h => ?_) | refine c_cond_n rfl (fun h => ?_) (fun h => ?_)) <;> (try (first | contradiction | (exfalso; omega)))) | refine c_cond_nb rfl (fun h => ?_) (fun h => ?_) | refine c_cond rfl (fun h => ?_) (fun h => ?_))) | refine c_block ?_ | refine c_skip ?_ | refine c_exit ?_ | refine c_regionQN rfl rfl (by decide +kernel) ?_)) | apply s_stepQ | (refine kQG ?_; (first | refine s_gyesQ rfl rfl rfl ?_ | refine s_gnoQ rfl rfl rfl rfl rfl ?_ | ((first | refine s_splitQ_d rfl rfl (fun h => ?_) (fun h => ?_) | refine s_splitQ_n rfl rfl (fun h => ?_) (fun h => ?_)) <;> (try (first | contradiction | (exfalso; omega)))) | refine s_splitQ_nb rfl rfl (fun h => ?_) (fun h => ?_) | refine s_splitQ rfl rfl (fun h => ?_) (fun h => ?_))) | refine lQ_then ?_ | refine lQ_ends ?_ | (refine kE ?_; (first | refine e_then_r ?_ | refine e_block_r ?_ | refine e_then_n ?_ | refine e_then_x ?_ | refine e_block_n ?_ | refine e_block_x ?_ | refine e_block_y rfl ?_)) | refine l_ends ?_)
  all_goals try simp only [Int.toNat_natCast, eImg_dflt, eReg_dflt] at *
  all_goals first
    | (refine s_leave1 rfl rfl (fun w hw => ⟨ret_false (fun hh => ?_), hw.below⟩)
       first
         | exact absurd hh.1 (by assumption)
         | exact absurd hh.2.1 (by omega)
         | exact absurd hh.2.2.1 (by omega)
         | exact absurd hh.2.2.2.1 (by omega)
         | exact absurd (chain_at hh (j := j) (by omega)).1 (by assumption)
         | exact absurd (chain_at hh (j := j) (by omega)).2.1 (by assumption)
         | exact absurd (chain_at hh (j := j) (by omega)).2.2.1 (by assumption)
         | (have q := (chain_at hh (j := j) (by omega)).2.2.2.1; omega)
         | exact absurd (by assumption) ((chain_at hh (j := j) (by omega)).2.2.2.2.1 (by assumption))
         | exact absurd (hh.2.2.2.2.2 i (by omega)) (by assumption))
    | exact e_round (j + 1) ⟨by omega, upto_next hj.2 (bufOk_new (by omega) (by assumption) (by omega) (by omega) (by omega) (by first | exact .inl (by omega) | exact .inr (by assumption)))⟩ ⟨rfl, (by repeat' first | exact trivial | refine ⟨rfl, ?_⟩)⟩ (fun w hw => hw.sub (selO_sub [false, true] _ _ rfl)) (by omega)
    | exact e_round (i + 1) ⟨by omega, upto_next hi.2 (by assumption)⟩ ⟨rfl, (by repeat' first | exact trivial | refine ⟨rfl, ?_⟩)⟩ (fun w hw => hw.sub (selO_sub [false, true] _ _ rfl)) (by omega)
    | exact s_leave1 rfl rfl (fun w hw => ⟨ret_true ⟨by assumption, by omega, by omega, by omega, fun k hk => hj.2 k (by omega), fun k hk => hi.2 k (by omega)⟩, hw.below⟩)
end Go.Proofs.YtpcammhmgleonaaGreat
namespace Sx
def nbInv (c : DChain) (k best : Nat) : Prop := best < c.ages.length ∧ nextB c = nbFrom c.ages (c.ages.length - k) best k
theorem nb_start {c : DChain} (h : 0 < c.ages.length) : nbInv c 0 0 := ⟨h, rfl⟩
theorem nb_zero {c : DChain} {k best : Nat} (h : nbInv c k best) (hk : k < c.ages.length) (e : c.ages.getD k 0 = 0) : nextB c = k := by
  rw [h.2, show c.ages.length - k = (c.ages.length - (k + 1)) + 1 by omega]
  unfold nbFrom
  rw [if_pos hk, if_pos e]
theorem nb_more {c : DChain} {k best : Nat} (h : nbInv c k best) (hk : k < c.ages.length) (e : ¬ c.ages.getD k 0 = 0) (e2 : c.ages.getD best 0 < c.ages.getD k 0) : nbInv c (k + 1) k := by
  refine ⟨hk, ?_⟩
  rw [h.2, show c.ages.length - k = (c.ages.length - (k + 1)) + 1 by omega]
  conv => lhs; unfold nbFrom
  rw [if_pos hk, if_neg e, if_pos e2]
theorem nb_same {c : DChain} {k best : Nat} (h : nbInv c k best) (hk : k < c.ages.length) (e : ¬ c.ages.getD k 0 = 0) (e2 : ¬ c.ages.getD best 0 < c.ages.getD k 0) : nbInv c (k + 1) best := by
  refine ⟨h.1, ?_⟩
  rw [h.2, show c.ages.length - k = (c.ages.length - (k + 1)) + 1 by omega]
  conv => lhs; unfold nbFrom
  rw [if_pos hk, if_neg e, if_neg e2]
theorem nb_end {c : DChain} {k best : Nat} (h : nbInv c k best) (hk : c.ages.length ≤ k) : nextB c = best := by
  rw [h.2, show c.ages.length - k = 0 by omega]; rfl
end Sx
namespace Go.Proofs.YtpcammhmgleonaaGreat
open Go Sx
attribute [local irreducible] Exit.then Exit.inBlock bodyPost OVs OInts
set_option maxHeartbeats 2000000 in
theorem c_inextBuffer (c : DChain) (vb va vd vs : Value) (W : World) (hc : RCh W c vb va vd vs) : SYields Tryz.prog 9 #[vChain c vb va vd vs] (.int .i64 (nextBuffer c)) W := by
  have hcc := hc
  obtain ⟨r1, r2, r3, r4⟩ := hc
  have hal := r2.len
  by_cases hok : c.ok
  · have hn : nextBuffer c = (nextB c : Int) := by unfold nextBuffer; rw [if_pos hok]
    have hla : 0 < c.ages.length := by rw [hok.2.2.1]; exact hok.2.1.1
    rw [hn]
    (first | apply SYields.mk | apply SYieldsF.mk | skip); refine s_enter Tryz.func9 rfl Tryz.ntmps9 rfl ?_
    repeat' (first | exact rfl | (apply kO; (first | exact ov_pure rfl | (apply kOBin; (first | exact aBin)) | (apply kOCall; (first | (apply kCallF; (first | exact (ov_call rfl (fun w hw => c_ichainOk c _ _ _ _ w (hcc.keep (hw.cells rfl)))))) | (apply kCallB; (first | exact aBlt | exact (ov_lenR (fun w hw => r2.keep (hw.cells rfl)) rfl) | exact aLenR)))) | (apply kOLoad; (first | exact (ov_ldR0 (fun w hw => r2.keep (hw.cells rfl)) rfl rfl (by omega) rfl) | exact (ov_ldR0 (fun w hw => r2.keep (hw.cells rfl)) rfl rfl (by have := hj2.1; omega) rfl) | exact aLdF | exact aLdR)) | exact ov_fieldAddr rfl | (apply kOIdx; (first | exact (ov_idxR (fun w hw => r2.keep (hw.cells rfl)) rfl rfl (by omega)) | exact (ov_idxR (fun w hw => r2.keep (hw.cells rfl)) rfl rfl (by have := hj2.1; omega)) | exact aIdx)) | exact aRest | exact aNew | exact (ov_field1 (ft := 31) rfl rfl rfl rfl))) | (refine kN ?_; (first | (refine kStore ?_; (first | refine s_store1 _ rfl rfl gpA rfl (by rfl) ?_ | refine s_storeS _ rfl rfl gpA rfl rfl (by rfl) ?_ | refine s_storeS _ rfl rfl gpA rfl (ones_img oiA) (by rfl) ?_)) | refine s_boxS rfl rfl (fun b hb => ?_) | refine s_allocS rfl (fun b hb => ?_) | refine s_box1 rfl rfl rfl (fun b hb => ?_) | refine s_alloc1 rfl rfl (fun b hb => ?_) | refine s_buildSlice0 rfl (fun b hb => ?_) | refine s_buildSlice rfl rfl rfl rfl rfl (fun b hb => ?_) | apply s_step)) | (refine kG ?_; (first | refine s_gyes rfl rfl rfl ?_ | refine s_gno rfl rfl rfl rfl rfl ?_ | ((first | refine s_split_d rfl rfl (fun h => ?_) (fun h => ?_) | refine s_split_n rfl rfl (fun h => ?_) (fun h => ?_)) <;> (try (first | contradiction | (exfalso; omega) | (exfalso; exact absurd hok (by assumption))))) | refine s_split_nb rfl rfl (fun h => ?_) (fun h => ?_) | refine s_split rfl rfl (fun h => ?_) (fun h => ?_))) | refine l_then ?_ | (refine kC ?_; (first | (refine kLoopR 5 ?_; refine c_loopV (ι := Nat × Nat) (fun j => j.1 ≤ c.ages.length ∧ nbInv c j.1 j.2) (fun j => [(3, .int .i64 (j.2 : Int)), (12, .int .i64 (j.1 : Int))]) (fun j => [_]) (fun j => c.ages.length - j.1) (0, 0) ⟨by dsimp only; omega, nb_start hla⟩ rfl (fun _ => rfl) ⟨rfl, rfl, trivial⟩ (fun w hw => hw) (fun j hj => ?_); obtain ⟨hj1, hj2⟩ := hj) | refine c_seq ?_ | refine c_regionN rfl ?_ | refine c_ret ?_ | (refine kCond ?_; (first | refine c_cond_t rfl ?_ | refine c_cond_f rfl ?_ | ((first | refine c_cond_d rfl (fun h => ?_) (fun h => ?_) | refine c_cond_n rfl (fun h => ?_) (fun h => ?_)) <;> (try (first | contradiction | (exfalso; omega) | (exfalso; exact absurd hok (by assumption))))) | refine c_cond_nb rfl (fun h => ?_) (fun h => ?_) | refine c_cond rfl (fun h => ?_) (fun h => ?_))) | refine c_block ?_ | refine c_skip ?_ | refine c_exit ?_ | refine c_regionQN rfl rfl (by decide +kernel) ?_)) | apply s_stepQ | (refine kQG ?_; (first | refine s_gyesQ rfl rfl rfl ?_ | refine s_gnoQ rfl rfl rfl rfl rfl ?_ | ((first | refine s_splitQ_d rfl rfl (fun h => ?_) (fun h => ?_) | refine s_splitQ_n rfl rfl (fun h => ?_) (fun h => ?_)) <;> (try (first | contradiction | (exfalso; omega) | (exfalso; exact absurd hok (by assumption))))) | refine s_splitQ_nb rfl rfl (fun h => ?_) (fun h => ?_) | refine s_splitQ rfl rfl (fun h => ?_) (fun h => ?_))) | refine lQ_then ?_ | refine lQ_ends ?_ | (refine kE ?_; (first | refine e_then_r ?_ | refine e_block_r ?_ | refine e_then_n ?_ | refine e_then_x ?_ | refine e_block_n ?_ | refine e_block_x ?_ | refine e_block_y rfl ?_)) | refine l_ends ?_)
    all_goals try simp only [Int.toNat_natCast] at *
    · exact s_leave1 rfl rfl (fun w hw => ⟨ret_int (by rw [nb_zero hj2 (by omega) (by assumption)]), hw.below⟩)
    · exact e_round (j.1 + 1, j.1) ⟨by dsimp only; omega, nb_more hj2 (by omega) (by assumption) (by assumption)⟩ ⟨rfl, slook_to rfl (vint_to (by push_cast; rfl)), (by repeat' first | exact trivial | refine ⟨rfl, ?_⟩)⟩ (fun w hw => hw) (by dsimp only; omega)
    · exact e_round (j.1 + 1, j.2) ⟨by dsimp only; omega, nb_same hj2 (by omega) (by assumption) (by assumption)⟩ ⟨rfl, slook_to rfl (vint_to (by push_cast; rfl)), (by repeat' first | exact trivial | refine ⟨rfl, ?_⟩)⟩ (fun w hw => hw) (by dsimp only; omega)
    · exact s_leave1 rfl rfl (fun w hw => ⟨ret_int (by rw [nb_end hj2 (by omega)]), hw.below⟩)
  · have hn : nextBuffer c = -1 := by unfold nextBuffer; rw [if_neg hok]
    rw [hn]
    (first | apply SYields.mk | apply SYieldsF.mk | skip); refine s_enter Tryz.func9 rfl Tryz.ntmps9 rfl ?_
    repeat' (first | exact rfl | (apply kO; (first | exact ov_pure rfl | (apply kOBin; (first | exact aBin)) | (apply kOCall; (first | (apply kCallF; (first | exact (ov_call rfl (fun w hw => c_ichainOk c _ _ _ _ w (hcc.keep (hw.cells rfl)))))) | (apply kCallB; (first | exact aBlt | exact aLenR)))) | (apply kOLoad; (first | exact aLdF | exact aLdR)) | exact ov_fieldAddr rfl | (apply kOIdx; (first | exact aIdx)) | exact aRest | exact aNew | exact (ov_field1 (ft := 31) rfl rfl rfl rfl))) | (refine kN ?_; (first | (refine kStore ?_; (first | refine s_store1 _ rfl rfl gpA rfl (by rfl) ?_ | refine s_storeS _ rfl rfl gpA rfl rfl (by rfl) ?_ | refine s_storeS _ rfl rfl gpA rfl (ones_img oiA) (by rfl) ?_)) | refine s_boxS rfl rfl (fun b hb => ?_) | refine s_allocS rfl (fun b hb => ?_) | refine s_box1 rfl rfl rfl (fun b hb => ?_) | refine s_alloc1 rfl rfl (fun b hb => ?_) | refine s_buildSlice0 rfl (fun b hb => ?_) | refine s_buildSlice rfl rfl rfl rfl rfl (fun b hb => ?_) | apply s_step)) | (refine kG ?_; (first | refine s_gyes rfl rfl rfl ?_ | refine s_gno rfl rfl rfl rfl rfl ?_ | ((first | refine s_split_d rfl rfl (fun h => ?_) (fun h => ?_) | refine s_split_n rfl rfl (fun h => ?_) (fun h => ?_)) <;> (try (first | contradiction | (exfalso; omega) | (exfalso; exact absurd (by assumption) hok)))) | refine s_split_nb rfl rfl (fun h => ?_) (fun h => ?_) | refine s_split rfl rfl (fun h => ?_) (fun h => ?_))) | refine l_then ?_ | (refine kC ?_; (first | refine c_seq ?_ | refine c_regionN rfl ?_ | refine c_ret ?_ | (refine kCond ?_; (first | refine c_cond_t rfl ?_ | refine c_cond_f rfl ?_ | ((first | refine c_cond_d rfl (fun h => ?_) (fun h => ?_) | refine c_cond_n rfl (fun h => ?_) (fun h => ?_)) <;> (try (first | contradiction | (exfalso; omega) | (exfalso; exact absurd (by assumption) hok)))) | refine c_cond_nb rfl (fun h => ?_) (fun h => ?_) | refine c_cond rfl (fun h => ?_) (fun h => ?_))) | refine c_block ?_ | refine c_skip ?_ | refine c_exit ?_ | refine c_regionQN rfl rfl (by decide +kernel) ?_)) | apply s_stepQ | (refine kQG ?_; (first | refine s_gyesQ rfl rfl rfl ?_ | refine s_gnoQ rfl rfl rfl rfl rfl ?_ | ((first | refine s_splitQ_d rfl rfl (fun h => ?_) (fun h => ?_) | refine s_splitQ_n rfl rfl (fun h => ?_) (fun h => ?_)) <;> (try (first | contradiction | (exfalso; omega) | (exfalso; exact absurd (by assumption) hok)))) | refine s_splitQ_nb rfl rfl (fun h => ?_) (fun h => ?_) | refine s_splitQ rfl rfl (fun h => ?_) (fun h => ?_))) | refine lQ_then ?_ | refine lQ_ends ?_ | (refine kE ?_; (first | refine e_then_r ?_ | refine e_block_r ?_ | refine e_then_n ?_ | refine e_then_x ?_ | refine e_block_n ?_ | refine e_block_x ?_ | refine e_block_y rfl ?_)) | refine l_ends ?_)
    all_goals exact s_leave1 rfl rfl (fun w hw => ⟨rfl, hw.below⟩)
end Go.Proofs.YtpcammhmgleonaaGreat
namespace Go.Proofs.YtpcammhmgleonaaGreat
open Go Sx
attribute [local irreducible] Exit.then Exit.inBlock bodyPost
section
variable {P : Program} {n : Nat} {lo : SMut} {s : World} {E : SEnv} {L : SHeap} {d : Option Tmp} {ty : TypeId} {pos : String} {after : Array Edge} {g : Option (Nat × Bool)}
end
def keeps7 (ds : Nat → Value) (n : Nat) (cells : List Value) : Prop := ∀ i, i < n → cells[i * 7 + 6]? = some (ds i)
end Go.Proofs.YtpcammhmgleonaaGreat
namespace Go.Proofs.YtpcammhmgleonaaGreat
open Go Sx
attribute [local irreducible] Exit.then Exit.inBlock bodyPost OVs
section
variable {α : Type} {d : ETri α}
end
abbrev dI : ETri DImg := (DImg.zero, undef, [])
def kI (l : List DImg) (k : Int) (i : Nat) : Int := k + 2 * (i : Int) + (sumTo (fun i => (l.getD i DImg.zero).data.length) i : Nat)
def markImg' (s : DImg) (k : Int) : DImg := ⟨k, k + 1, iota (k + 2) s.data.length⟩
def markImgs (l : List DImg) (k : Int) : List DImg := (List.range l.length).map (fun i => markImg' (l.getD i DImg.zero) (kI l k i))
abbrev dR : ETri (List DRect) := ([], undef, [])
def kR (l : List (List DRect)) (k : Int) (i : Nat) : Int := k + 4 * (sumTo (fun i => (l.getD i []).length) i : Nat)
def markRegs (l : List (List DRect)) (k : Int) : List (List DRect) := (List.range l.length).map (fun i => iotaR (kR l k i) (l.getD i []).length)
def kC1 (c : DChain) (k : Int) : Int := kI c.bufs k c.bufs.length
def kC2 (c : DChain) (k : Int) : Int := kC1 c k + c.ages.length
def kC3 (c : DChain) (k : Int) : Int := kR c.dams (kC2 c k) c.dams.length
def kC4 (c : DChain) (k : Int) : Int := kC3 c k + 9 * c.scene.ss.length + surfsLen c.scene.ss
def markCh (c : DChain) (k : Int) : DChain := ⟨markImgs c.bufs k, iota (kC1 c k) c.ages.length, markRegs c.dams (kC2 c k), { c.scene with ss := markSurfs c.scene.ss (kC3 c k) }⟩
theorem OChain.inv {c e : DChain} {b a d s : Value} {H : SPiece} (h : OChain (vChain e b a d s) c H) : ∃ Hb Ha Hd Hs, OElems eImg 49 b c.bufs Hb ∧ OInts 3 a c.ages Ha ∧ OElems eReg 43 d c.dams Hd ∧ OElems eSurf 88 s c.scene.ss Hs ∧ H = [Hs, Hd, Ha, Hb].flatten := by
  obtain ⟨b', a', d', s', Hb, Ha, Hd, Hs, e, o1, o2, o3, o4, rfl⟩ := h
  simp only [Value.agg.injEq, Array.mk.injEq, List.cons.injEq, and_true] at e
  obtain ⟨rfl, rfl, rfl, -, -, -, rfl⟩ := e
  exact ⟨_, _, _, _, o1, o2, o3, o4, rfl⟩
theorem OChain.rd {c e : DChain} {b a d s : Value} {H : SPiece} (h : OChain (vChain e b a d s) c H) {w : World} (hw : Holds w H) : RCh w c b a d s := by
  obtain ⟨Hb, Ha, Hd, Hs, o1, o2, o3, o4, rfl⟩ := h.inv
  exact ⟨o1.rs (hw.sub (i := 3) rfl), OInts.reads o2 (hw.sub (i := 2) rfl), o3.rs (hw.sub (i := 1) rfl), o4.rs (hw.sub (i := 0) rfl)⟩
theorem OChain.form {u : Value} {c : DChain} {H : SPiece} (h : OChain u c H) : ∃ b a d s, u = vChain c b a d s := by
  obtain ⟨b', a', d', s', Hb, Ha, Hd, Hs, e, o1, o2, o3, o4, rfl⟩ := h
  exact ⟨_, _, _, _, e⟩
end Go.Proofs.YtpcammhmgleonaaGreat
namespace Go.Proofs.YtpcammhmgleonaaGreat
open Go Sx
theorem OChain.ones {c e : DChain} {b a d s : Value} {H : SPiece} (h : OChain (vChain e b a d s) c H) : oneCells [b, a, d, .int .i64 e.scene.W, .int .i64 e.scene.H, .int .i64 e.scene.Back, s] = true := by
  obtain ⟨Hb, Ha, Hd, Hs, o1, o2, o3, o4, rfl⟩ := h.inv
  exact ones_cons o1.one (ones_cons o2.one (ones_cons o3.one (ones_cons rfl (ones_cons rfl (ones_cons rfl (ones_cons o4.one rfl))))))
end Go.Proofs.YtpcammhmgleonaaGreat
namespace Go.Proofs.YtpcammhmgleonaaGreat
open Go Sx
attribute [local irreducible] Exit.then Exit.inBlock bodyPost OVs OInts OElems DChain.ok Sx.newImage DScene.ok
def OChainB (u : Value) (c : DChain) (q : Bool) (H : SPiece) : Prop := ∃ v, u = .tuple #[v, .bool q] ∧ OChain v c H
set_option maxHeartbeats 4000000 in
theorem c_inewChain (s : DScene) (n : Int) (v : Value) (W : World) (hv : RS eSurf W v s.ss) (hl : surfsLen s.ss ≤ 2000000) : SYieldsF Tryz.prog 7 #[vScene s v, .int .i64 n] (fun u H => OChainB u (newChain s n) (decide (s.ok ∧ (1 ≤ n ∧ n ≤ 3))) H) W := by
  by_cases hok : s.ok ∧ (1 ≤ n ∧ n ≤ 3)
  · have hn : newChain s n = ⟨List.replicate n.toNat (newImage s.W s.H s.Back), List.replicate n.toNat 0, [], s⟩ := by unfold newChain; rw [if_pos hok]
    have hsc := hok.1
    unfold DScene.ok at hsc
    have hpx : pixP s.Back := hsc.2.2.1.1
    have hni : newImage s.W s.H s.Back = ⟨s.W, s.H, List.replicate (s.W * s.H).toNat s.Back⟩ := by unfold newImage; rw [if_pos ⟨hsc.1, hsc.2.1, hpx⟩]
    rw [hn, decide_eq_true hok]
    (first | apply SYields.mk | apply SYieldsF.mk | skip); refine s_enter Tryz.func7 rfl Tryz.ntmps7 rfl ?_
    repeat' (first | exact rfl | (apply kO; (first | exact ov_pure rfl | (apply kOBin; (first | exact aBin)) | (apply kOCall; (first | (apply kCallF; (first | exact (ov_call rfl (fun w hw => c_isceneOk s _ w (reA hw))) | exact (ov_call rfl (fun w hw => c_within _ _ _ w)))) | (apply kCallB; (first | exact aBlt | exact aLenR)))) | (apply kOLoad; (first | exact aLdF | exact aLdR)) | exact ov_fieldAddr rfl | (apply kOIdx; (first | exact aIdx)) | exact aRest | exact aNew | exact (ov_field1 (ft := 31) rfl rfl rfl rfl))) | (refine kN ?_; (first | (refine kCall ?_; (first | (refine kWFn 21 ?_; (refine s_callF (fun u H => OScene u s H) rfl (fun w hw => c_copyScene s _ w (hv.keep (hw.cells rfl)) hl) rfl (fun u Hs hus => ?_); obtain ⟨v6, rfl, hus⟩ := hus; have f1 := hus.form; obtain ⟨_, _, rfl⟩ := f1)) | (refine kWFn 24 ?_; (refine s_callF (fun u H => OImg u (newImage s.W s.H s.Back) H) rfl (fun w hw => by rw [hni]; exact c_inewImage s.W s.H s.Back w hsc.1 hsc.2.1 hpx) rfl (fun u H3 hu3 => ?_); obtain ⟨d', rfl, hu3⟩ := hu3; have f1 := hu3.form; obtain ⟨_, _, rfl⟩ := f1)) | (refine kWApp ?_; (refine s_appendE _ _ _ (el := eImg) (a := newImage s.W s.H s.Back) rfl rfl (by assumption) gpA gpA (show eImg.own _ _ _ from hu3) gpA rfl rfl (eImg_ones (OInts.one (by assumption))) (by rw [scells_eq]; rfl) (by decide) (by rw [List.length_replicate]; omega) (by decide) rfl (fun v4 H4 hv4 => ?_); have f1 := hv4.form; obtain ⟨ua, uc, rfl⟩ := f1)) | (refine kWApp ?_; (refine s_appendI _ _ (ys := [_]) rfl rfl (by assumption) gpA gpA rfl rfl (by rw [List.length_replicate]; omega) (by decide) rfl (fun v5 H5 hv5 => ?_); have f1 := hv5.form; obtain ⟨va, vc, rfl⟩ := f1)) | apply s_step)) | (refine kStore ?_; (first | (refine s_storeS _ rfl rfl gpA rfl (ones_cons (OElems.one (by assumption)) (ones_cons (OInts.one (by assumption)) (ones_cons rfl (ones_cons rfl (ones_cons rfl (ones_cons rfl (ones_cons (OElems.one (by assumption)) rfl))))))) (by rfl) ?_) | (refine s_storeS _ rfl rfl gpA rfl (ones_cons rfl (ones_cons rfl (ones_cons rfl (ones_cons rfl (ones_cons rfl (ones_cons rfl (ones_cons (OElems.one (by assumption)) rfl))))))) (by rfl) ?_) | refine s_store1 _ rfl rfl gpA rfl (by rfl) ?_ | refine s_storeS _ rfl rfl gpA rfl rfl (by rfl) ?_ | refine s_storeS _ rfl rfl gpA rfl (ones_img oiA) (by rfl) ?_)) | refine s_boxS rfl rfl (fun b hb => ?_) | refine s_allocS rfl (fun b hb => ?_) | refine s_box1 rfl rfl rfl (fun b hb => ?_) | refine s_alloc1 rfl rfl (fun b hb => ?_) | refine s_buildSlice0 rfl (fun b hb => ?_) | refine s_buildSlice rfl rfl rfl rfl rfl (fun b hb => ?_) | apply s_step)) | (refine kG ?_; (first | refine s_gyes rfl rfl rfl ?_ | refine s_gno rfl rfl rfl rfl rfl ?_ | ((first | refine s_split_d rfl rfl (fun h => ?_) (fun h => ?_) | refine s_split_n rfl rfl (fun h => ?_) (fun h => ?_)) <;> (try (first | contradiction | (exfalso; omega) | (exfalso; exact absurd hok.1 (by assumption)) | (exfalso; omega)))) | refine s_split_nb rfl rfl (fun h => ?_) (fun h => ?_) | refine s_split rfl rfl (fun h => ?_) (fun h => ?_))) | (refine kS ?_; (first | refine h_exec rfl ?_ | refine h_take_nil rfl rfl rfl ?_ | refine h_take_pick rfl rfl rfl ?_ | refine h_nil ?_ | refine h_alt ?_ ?_ | apply h_take)) | (refine kBack ?_; (first | refine h_back_last rfl ?_ | refine h_backN rfl subA ?_)) | refine l_then ?_ | (refine kC ?_; (first | (refine kReg 6 ?_; refine c_regionSubN (SPlan.take 0 (SPlan.take 1 (SPlan.take 2 (SPlan.take 3 (SPlan.take 4 (SPlan.take 5 (SPlan.take 6 (SPlan.take 7 (SPlan.run 8 (SPlan.run 9 (SPlan.run 10 (SPlan.take 11 (SPlan.run 12 SPlan.done))))))))))))) (some 12) [true, true, true, true, false, true, true] rfl rfl rfl (by decide +kernel) ?_) | (refine kLoopR 5 ?_; refine c_loopV (ι := Nat × (Value × SPiece) × (Value × SPiece)) (fun j => (j.1 : Int) ≤ n ∧ OElems eImg 49 j.2.1.1 (List.replicate j.1 (newImage s.W s.H s.Back)) j.2.1.2 ∧ OInts 3 j.2.2.1 (List.replicate j.1 0) j.2.2.2) (fun j => [(20, .int .i64 (j.1 : Int))]) (fun j => [[(_, srow [j.2.1.1, j.2.2.1, .slice none 0 0, .int .i64 s.W, .int .i64 s.H, .int .i64 s.Back, _] 34)], _, [], j.2.2.2, j.2.1.2, _, _]) (fun j => n.toNat - j.1) (0, (_, []), (_, [])) ⟨by dsimp only; omega, OElems.nil, OInts.nil _⟩ rfl (fun _ => rfl) ⟨rfl, trivial⟩ (fun w hw => hw.nil2.nil2.nil2) (fun j hj => ?_); obtain ⟨hj1, hj2, hj3⟩ := hj; have f2 := hj2.form; obtain ⟨wa, wc, ej⟩ := f2; have f3 := hj3.form; obtain ⟨wb, wd, ek⟩ := f3) | refine c_seq ?_ | refine c_regionN rfl ?_ | refine c_ret ?_ | (refine kCond ?_; (first | refine c_cond_t rfl ?_ | refine c_cond_f rfl ?_ | ((first | refine c_cond_d rfl (fun h => ?_) (fun h => ?_) | refine c_cond_n rfl (fun h => ?_) (fun h => ?_)) <;> (try (first | contradiction | (exfalso; omega) | (exfalso; exact absurd hok.1 (by assumption)) | (exfalso; omega)))) | refine c_cond_nb rfl (fun h => ?_) (fun h => ?_) | refine c_cond rfl (fun h => ?_) (fun h => ?_))) | refine c_block ?_ | refine c_skip ?_ | refine c_exit ?_ | refine c_regionQN rfl rfl (by decide +kernel) ?_)) | apply s_stepQ | (refine kQG ?_; (first | refine s_gyesQ rfl rfl rfl ?_ | refine s_gnoQ rfl rfl rfl rfl rfl ?_ | ((first | refine s_splitQ_d rfl rfl (fun h => ?_) (fun h => ?_) | refine s_splitQ_n rfl rfl (fun h => ?_) (fun h => ?_)) <;> (try (first | contradiction | (exfalso; omega) | (exfalso; exact absurd hok.1 (by assumption)) | (exfalso; omega)))) | refine s_splitQ_nb rfl rfl (fun h => ?_) (fun h => ?_) | refine s_splitQ rfl rfl (fun h => ?_) (fun h => ?_))) | refine lQ_then ?_ | refine lQ_ends ?_ | (refine kE ?_; (first | refine e_then_r ?_ | refine e_block_r ?_ | refine e_then_n ?_ | refine e_then_x ?_ | refine e_block_n ?_ | refine e_block_x ?_ | refine e_block_y rfl ?_)) | refine l_ends ?_)
    · refine e_round (j.1 + 1, (_, H4), (_, H5)) ⟨by dsimp only; omega, by dsimp only; rw [List.replicate_succ']; exact hv4, by dsimp only; rw [List.replicate_succ']; exact hv5⟩ ⟨slook_to rfl (vint_to (by push_cast; rfl)), (by repeat' first | exact trivial | refine ⟨rfl, ?_⟩)⟩ (fun w hw => hw.sub (by repeat' first | exact List.nil_sublist _ | exact List.Sublist.slnil | refine List.Sublist.cons_cons _ ?_ | refine List.Sublist.cons _ ?_)) (by dsimp only; omega)
    · rw [show j.1 = n.toNat by omega] at hj2 hj3
      exact s_leaveN rfl rfl (SRes.cellG rfl rfl fwA (.tmp rfl .nil)) (fun w hw => ⟨_, _, rfl, ⟨_, rfl, ⟨_, _, _, _, j.2.1.2, j.2.2.2, [], Hs, rfl, hj2, hj3, OElems.nil, hus, rfl⟩⟩, hw.toFreshL (by repeat' first | exact List.nil_sublist _ | exact List.Sublist.slnil | refine List.Sublist.cons_cons _ ?_ | refine List.Sublist.cons _ ?_)⟩) .ret (.inl rfl)
  · have hn : newChain s n = ⟨[], [], [], ⟨0, 0, 0, []⟩⟩ := by unfold newChain; rw [if_neg hok]
    rw [hn, decide_eq_false hok]
    (first | apply SYields.mk | apply SYieldsF.mk | skip); refine s_enter Tryz.func7 rfl Tryz.ntmps7 rfl ?_
    repeat' (first | exact rfl | (apply kO; (first | exact ov_pure rfl | (apply kOBin; (first | exact aBin)) | (apply kOCall; (first | (apply kCallF; (first | exact (ov_call rfl (fun w hw => c_isceneOk s _ w (reA hw))) | exact (ov_call rfl (fun w hw => c_within _ _ _ w)))) | (apply kCallB; (first | exact aBlt | exact aLenR)))) | (apply kOLoad; (first | exact aLdF | exact aLdR)) | exact ov_fieldAddr rfl | (apply kOIdx; (first | exact aIdx)) | exact aRest | exact aNew | exact (ov_field1 (ft := 31) rfl rfl rfl rfl))) | (refine kN ?_; (first | (refine kCall ?_; (first | (refine kWFn 21 ?_; (refine s_callF (fun u H => OScene u s H) rfl (fun w hw => c_copyScene s _ w (hv.keep (hw.cells rfl)) hl) rfl (fun u Hs hus => ?_); obtain ⟨v6, rfl, hus⟩ := hus; have f1 := hus.form; obtain ⟨_, _, rfl⟩ := f1)) | apply s_step)) | (refine kStore ?_; (first | (refine s_storeS _ rfl rfl gpA rfl (ones_cons rfl (ones_cons rfl (ones_cons rfl (ones_cons rfl (ones_cons rfl (ones_cons rfl (ones_cons (OElems.one (by assumption)) rfl))))))) (by rfl) ?_) | refine s_store1 _ rfl rfl gpA rfl (by rfl) ?_ | refine s_storeS _ rfl rfl gpA rfl rfl (by rfl) ?_ | refine s_storeS _ rfl rfl gpA rfl (ones_img oiA) (by rfl) ?_)) | refine s_boxS rfl rfl (fun b hb => ?_) | refine s_allocS rfl (fun b hb => ?_) | refine s_box1 rfl rfl rfl (fun b hb => ?_) | refine s_alloc1 rfl rfl (fun b hb => ?_) | refine s_buildSlice0 rfl (fun b hb => ?_) | refine s_buildSlice rfl rfl rfl rfl rfl (fun b hb => ?_) | apply s_step)) | (refine kG ?_; (first | refine s_gyes rfl rfl rfl ?_ | refine s_gno rfl rfl rfl rfl rfl ?_ | ((first | refine s_split_d rfl rfl (fun h => ?_) (fun h => ?_) | refine s_split_n rfl rfl (fun h => ?_) (fun h => ?_)) <;> (try (first | contradiction | (exfalso; omega) | (exfalso; exact absurd ⟨by assumption, by assumption⟩ hok)))) | refine s_split_nb rfl rfl (fun h => ?_) (fun h => ?_) | refine s_split rfl rfl (fun h => ?_) (fun h => ?_))) | refine l_then ?_ | (refine kC ?_; (first | refine c_seq ?_ | refine c_regionN rfl ?_ | refine c_ret ?_ | (refine kCond ?_; (first | refine c_cond_t rfl ?_ | refine c_cond_f rfl ?_ | ((first | refine c_cond_d rfl (fun h => ?_) (fun h => ?_) | refine c_cond_n rfl (fun h => ?_) (fun h => ?_)) <;> (try (first | contradiction | (exfalso; omega) | (exfalso; exact absurd ⟨by assumption, by assumption⟩ hok)))) | refine c_cond_nb rfl (fun h => ?_) (fun h => ?_) | refine c_cond rfl (fun h => ?_) (fun h => ?_))) | refine c_block ?_ | refine c_skip ?_ | refine c_exit ?_ | refine c_regionQN rfl rfl (by decide +kernel) ?_)) | apply s_stepQ | (refine kQG ?_; (first | refine s_gyesQ rfl rfl rfl ?_ | refine s_gnoQ rfl rfl rfl rfl rfl ?_ | ((first | refine s_splitQ_d rfl rfl (fun h => ?_) (fun h => ?_) | refine s_splitQ_n rfl rfl (fun h => ?_) (fun h => ?_)) <;> (try (first | contradiction | (exfalso; omega) | (exfalso; exact absurd ⟨by assumption, by assumption⟩ hok)))) | refine s_splitQ_nb rfl rfl (fun h => ?_) (fun h => ?_) | refine s_splitQ rfl rfl (fun h => ?_) (fun h => ?_))) | refine lQ_then ?_ | refine lQ_ends ?_ | (refine kE ?_; (first | refine e_then_r ?_ | refine e_block_r ?_ | refine e_then_n ?_ | refine e_then_x ?_ | refine e_block_n ?_ | refine e_block_x ?_ | refine e_block_y rfl ?_)) | refine l_ends ?_)
    all_goals exact s_leaveN rfl rfl (SRes.cellG rfl rfl fwA (.tmp rfl .nil)) (fun w hw => ⟨_, [], rfl, ⟨_, rfl, ⟨_, _, _, _, [], [], [], [], rfl, OElems.nil, OInts.nil _, OElems.nil, OElems.nil, rfl⟩⟩, hw.toFresh0⟩) .ret (.inl rfl)
end Go.Proofs.YtpcammhmgleonaaGreat
namespace Go.Proofs.YtpcammhmgleonaaGreat
open Go Sx
theorem getD_rep {α : Type} {m k : Nat} {x d : α} (h : k < m) : (List.replicate m x).getD k d = x := by
  rw [List.getD_eq_getElem?_getD, List.getElem?_replicate, if_pos h]; rfl
theorem fresh_ok {s : DScene} {m : Nat} : DChain.ok ⟨List.replicate m (newImage s.W s.H s.Back), List.replicate m 0, [], s⟩ ↔ s.ok ∧ (1 ≤ m ∧ m ≤ 3) := by
  constructor
  · exact fun h => ⟨h.1, by simpa using h.2.1⟩
  · rintro ⟨hs, hm⟩
    have hs' := hs
    unfold DScene.ok at hs'
    have hi := newImage_ok hs'.1 hs'.2.1 hs'.2.2.1.1
    refine ⟨hs, by simpa using hm, by simp, by simp, fun k hk => ?_, fun k hk => absurd hk (by simp)⟩
    have hk' : k < m := by simpa using hk
    have e1 : DChain.buf ⟨List.replicate m (newImage s.W s.H s.Back), List.replicate m 0, [], s⟩ k = newImage s.W s.H s.Back := getD_rep hk'
    have e2 : DChain.age ⟨List.replicate m (newImage s.W s.H s.Back), List.replicate m 0, [], s⟩ k = 0 := getD_rep hk'
    refine ⟨by rw [e1]; exact hi.1, by rw [e1]; exact hi.2.1, by rw [e1]; exact hi.2.2, ⟨by rw [e2]; omega, by rw [e2]; omega, by rw [e2]; simp⟩, fun _ _ _ => e2⟩
attribute [local irreducible] Exit.then Exit.inBlock bodyPost OVs OInts OElems DChain.ok Sx.newImage DScene.ok
end Go.Proofs.YtpcammhmgleonaaGreat
namespace Go.Proofs.YtpcammhmgleonaaGreat
open Go Sx
attribute [local irreducible] Exit.then Exit.inBlock bodyPost
section
variable {α : Type} {el : SElem α}
theorem gT_cut {T : List (ETri α)} {k : Nat} (h : k < T.length) : T = T.take k ++ T[k] :: T.drop (k + 1) := by
  rw [← List.drop_eq_getElem_cons h, List.take_append_drop]
theorem gT_set {T : List (ETri α)} {k : Nat} (h : k < T.length) (t : ETri α) : T.set k t = T.take k ++ t :: T.drop (k + 1) := by
  rw [List.set_eq_take_append_cons_drop, if_pos h]
theorem gcells_set {T : List (ETri α)} {k : Nat} {t : ETri α} {r : List Value} (h : k < T.length) :
    (tcells el T ++ r).take (k * el.k) ++ el.cells t.1 t.2.1 ++ (tcells el T ++ r).drop (k * el.k + el.k) = tcells el (T.set k t) ++ r := by
  have hl : (tcells el (T.take k)).length = k * el.k := by rw [tcells_length, List.length_take, Nat.min_eq_left (by omega)]
  have hk : (el.cells T[k].1 T[k].2.1).length = el.k := el.klen _ _
  have e0 : tcells el T = tcells el (T.take k) ++ (el.cells T[k].1 T[k].2.1 ++ tcells el (T.drop (k + 1))) := by
    rw [← tcells_cons, ← tcells_append, ← gT_cut h]
  have e : tcells el T ++ r = tcells el (T.take k) ++ (el.cells T[k].1 T[k].2.1 ++ (tcells el (T.drop (k + 1)) ++ r)) := by
    rw [e0, List.append_assoc, List.append_assoc]
  rw [e, gT_set h, tcells_append, tcells_cons]
  rw [List.take_left' hl, List.drop_append, List.drop_of_length_le (by omega), List.nil_append, hl, Nat.add_sub_cancel_left, List.drop_left' hk]
  simp only [List.append_assoc]
theorem gpiece_set {T : List (ETri α)} {k : Nat} (h : k < T.length) (t : ETri α) : (tpiece T ++ t.2.2).Perm (tpiece (T.set k t) ++ T[k].2.2) := by
  have e : tpiece T = tpiece (T.take k) ++ (T[k].2.2 ++ tpiece (T.drop (k + 1))) := by
    rw [← tpiece_cons, ← tpiece_append, ← gT_cut h]
  rw [e, gT_set h, tpiece_append, tpiece_cons]
  simp only [List.append_assoc]
  refine List.Perm.append_left _ ?_
  refine (List.perm_append_comm).trans ?_
  rw [List.append_assoc]
  exact List.perm_append_comm_assoc _ _ _
theorem gown_set {T : List (ETri α)} {k : Nat} {t : ETri α} (h : ∀ u ∈ T, el.own u.2.1 u.1 u.2.2) (ht : el.own t.2.1 t.1 t.2.2) : ∀ u ∈ T.set k t, el.own u.2.1 u.1 u.2.2 := fun u hu => by
  rcases List.mem_or_eq_of_mem_set hu with hu | hu
  · exact h u hu
  · rw [hu]; exact ht
theorem perm6 {β : Type} (p g a n m s o : List β) (h : (p ++ a).Perm (s ++ o)) : ((p ++ g) ++ (a ++ (n ++ m))).Perm ((n ++ (s ++ (o ++ g))) ++ m) := by
  have h1 : ((p ++ g) ++ (a ++ (n ++ m))).Perm ((p ++ a) ++ (g ++ (n ++ m))) := by
    rw [List.append_assoc, List.append_assoc]
    exact List.Perm.append_left _ (List.perm_append_comm_assoc _ _ _)
  have h2 : ((p ++ a) ++ (g ++ (n ++ m))).Perm ((s ++ o) ++ (g ++ (n ++ m))) := List.Perm.append_right _ h
  have h3 : ((s ++ o) ++ (g ++ (n ++ m))).Perm (n ++ ((s ++ (o ++ g)) ++ m)) := by
    have e : (s ++ o) ++ (g ++ (n ++ m)) = (s ++ (o ++ g)) ++ (n ++ m) := by simp only [List.append_assoc]
    rw [e]
    exact List.perm_append_comm_assoc _ _ _
  rw [List.append_assoc n]
  exact (h1.trans h2).trans h3
theorem _root_.Sx.OElems.cut {U : TypeId} {ad : Option Addr} {n c : Nat} {l : List α} {H : SPiece} (h : OElems el U (.slice ad n c) l H) {m : Nat} (hm : m ≤ l.length) : OElems el U (.slice ad m c) (l.take m) H := by
  obtain ⟨T, H0, G, rfl, o1, o2, rfl⟩ := h.tri
  rw [List.length_map] at hm
  have e : H0 ++ (tpiece T ++ G) = H0 ++ (tpiece (T.take m) ++ (tpiece (T.drop m) ++ G)) := by
    rw [← List.append_assoc (tpiece (T.take m)), ← tpiece_append, List.take_append_drop]
  rw [e, ← List.map_take]
  rcases OVec.inv o1 with ⟨e1, hn0, rfl⟩ | ⟨b0, cap, r, e1, rfl, hcap, hnc, hcm⟩
  · cases e1
    obtain rfl : m = 0 := by omega
    have hT : T = [] := List.eq_nil_of_length_eq_zero hn0
    subst hT
    exact OElems.ofTri (T := []) OVec.nil (fun t h => by cases h)
  · cases e1
    have hl : (T.take m).length = m := by rw [List.length_take]; omega
    refine OElems.ofTri (T := T.take m) ?_ (fun t ht => o2 t (List.mem_of_mem_take ht))
    have e2 : tcells el T ++ r = tcells el (T.take m) ++ (tcells el (T.drop m) ++ r) := by rw [← List.append_assoc, ← tcells_append, List.take_append_drop]
    rw [e2] at hcap ⊢
    rw [hl]
    exact OVec.blk b0 m _ _ _ (by rw [tcells_length, hl]) hcap (by omega) hcm
end
section
variable {P : Program} {n : Nat} {lo : SMut} {s : World} {ops : Array Oper} {Q : Exit → Act → World → Prop} {E : SEnv} {L : SHeap} {ty : TypeId} {pos : String} {after : Array Edge} {rest : List Oper}
theorem s_setE (i i3 : Nat) {α : Type} {el : SElem α} {T U : TypeId} {x y : Operand} {v z : Value} {by_ : Nat} {l : List α} {a : α} {dv : Value} {H Ha : SPiece} {k : Nat} [hi : SInf P T z el.k by_]
    (hx : sval E x = some (.pointer (some ⟨(baseOf v).1, (baseOf v).2 + k * el.k, none⟩))) (hy : sval E y = some (.agg (el.cells a dv).toArray)) (hv : OElems el U v l H) (hL : getL L i = some H)
    (ha : el.own dv a Ha) (hL3 : getL L i3 = some Ha) (h13 : Nat.beq i i3 = false) (h1 : oneCells (el.cells a dv) = true) (hk : k < l.length)
    (q : ∀ H', OElems el U v (l.set k a) H' → WPL P n lo s ops Q rest E (setL (setL L i H') i3 [])) :
    WPL P n lo s ops Q (⟨none, .store T x y, ty, pos, after, none⟩ :: rest) E L := by
  obtain ⟨TT, H0, G, rfl, o1, o2, rfl⟩ := hv.tri
  rw [List.length_map] at hk
  rcases OVec.inv o1 with ⟨rfl, hn0, rfl⟩ | ⟨b0, cap, r, rfl, rfl, hcap, hnc, hcm⟩
  · omega
  have hn3 := nbeq h13
  have hmul : (k + 1) * el.k ≤ TT.length * el.k := Nat.mul_le_mul_right _ hk
  rw [Nat.succ_mul] at hmul
  refine w_split i hL ?_
  simp only [baseOf, Nat.zero_add] at hx
  refine s_setRS (i + 1) hx hy (show getL (_ :: setL L i _) (i + 1) = some [(b0, srow (tcells el TT ++ r) U)] from getL_set hL) (el.klen _ _) h1 (by rw [List.length_append, tcells_length]; omega) ?_
  show WPL P n lo s ops Q rest _ ((tpiece TT ++ G) :: setL (setL L i _) i _)
  rw [setL_twice, gcells_set (t := (a, dv, Ha)) hk]
  have hs : (TT.set k (a, dv, Ha)).length = TT.length := List.length_set
  have o3 : OElems el U (.slice (some ⟨b0, 0, none⟩) TT.length cap) ((TT.set k (a, dv, Ha)).map (·.1)) ([(b0, srow (tcells el (TT.set k (a, dv, Ha)) ++ r) U)] ++ (tpiece (TT.set k (a, dv, Ha)) ++ (TT[k].2.2 ++ G))) :=
    OElems.ofTri (by
      rw [hs]
      exact OVec.blk b0 TT.length cap _ _ (by rw [tcells_length, hs]) (by rw [← hcap, List.length_append, List.length_append, tcells_length, tcells_length, hs]) hnc hcm) (gown_set o2 ha)
  rw [List.map_set] at o3
  refine w_perm ?_ (q _ o3)
  have hLi : getL (setL L i3 []) i = some ([(b0, srow (tcells el TT ++ r) U)] ++ (tpiece TT ++ G)) := by rw [getL_other (Ne.symm hn3)]; exact hL
  have g3 : getL (setL L i [(b0, srow (tcells el (TT.set k (a, dv, Ha)) ++ r) U)]) i3 = some Ha := by rw [getL_other hn3]; exact hL3
  have e1 := setL_flat g3
  rw [setL_comm L _ _ hn3] at e1 ⊢
  have e2 := setL_put (H' := [(b0, srow (tcells el (TT.set k (a, dv, Ha)) ++ r) U)]) hLi
  have e3 := setL_put (H' := [(b0, srow (tcells el (TT.set k (a, dv, Ha)) ++ r) U)] ++ (tpiece (TT.set k (a, dv, Ha)) ++ (TT[k].2.2 ++ G))) hLi
  rw [List.flatten_cons]
  exact (List.Perm.append_left _ (e1.trans (List.Perm.append_left _ e2))).trans ((perm6 _ _ _ _ _ _ _ (gpiece_set hk (a, dv, Ha))).trans e3.symm)
end
end Go.Proofs.YtpcammhmgleonaaGreat
