/-
  Texts that the law stands on, part 6: L13, L20, L23, L19, KC, L16, L18, L24, W4, W5.
-/
import Derived.Test.YtpcammhmgleonaaSixB5
set_option linter.unusedVariables false
namespace Go.Proofs.Ytpcammhmgleonaa
open Go Sx
attribute [local irreducible] Exit.then Exit.inBlock bodyPost OVs OInts canonR rowR gvals points Sx.canon
set_option maxHeartbeats 4000000 in
theorem c_sregionOf (v : Value) (l : List DRect) (W : World) (hv : RRects W v l) : SYieldsF Try.prog 112 #[v] (fun u H => OReg u (canon (points l)) H) W := by
  (first | apply SYields.mk | apply SYieldsF.mk | skip); refine s_enter Try.func112 rfl Try.ntmps112 rfl ?_
  repeat' (first | exact rfl | (apply kO; (exact ov_pure rfl)) | (refine kN ?_; (first | (refine kCall ?_; (first | (refine kWFn 147 ?_; (refine s_callF (fun u H => OBools u (gvals (points l)) H) rfl (fun w hw => c_l03Grid v l w (hv.keep (hw.cells rfl))) rfl (fun u H hu => ?_))) | (refine kWFn 146 ?_; (refine s_callF (fun u H => OReg u (canon (points l)) H) rfl (fun w hw => c_l03Canon _ (points l) w (OBools.rd (by assumption) (hfA hw))) rfl (fun u H hu => ?_); obtain ⟨d', rfl, hu⟩ := hu)) | apply s_step)) | (refine kStore ?_; (first | (refine s_storeS _ rfl rfl gpA rfl (ones_cons (OVs.one (by assumption)) rfl) (by rfl) ?_) | refine s_storeS _ rfl rfl gpA rfl rfl (by rfl) ?_ | refine s_storeS _ rfl rfl gpA rfl (ones_img oiA) (by rfl) ?_)) | refine s_allocS rfl (fun b hb => ?_) | apply s_step)) | refine l_then ?_ | (refine kC ?_; (first | refine c_seq ?_ | refine c_regionN rfl ?_ | refine c_ret ?_)) | (refine kE ?_; (first | refine e_block_y rfl ?_)))
  all_goals (refine kE ?_; refine s_leaveSF rfl rfl rfl fwA (fun w hw => ?_))
  all_goals exact ⟨_, _, rfl, ⟨_, rfl, hu⟩, hw.toFresh (H := H) gpA⟩
set_option maxHeartbeats 4000000 in
theorem c_l03Same (u v : Value) (k l : List DRect) (W : World) (hu : RRects W u k) (hv : RRects W v l) : SYields Try.prog 143 #[u, v] (.bool (decide (k = l))) W := by
  have hkl := hu.len
  have hll := hv.len
  (first | apply SYields.mk | apply SYieldsF.mk | skip); refine s_enter Try.func143 rfl Try.ntmps143 rfl ?_
  repeat' (first | exact rfl | (apply kO; (first | exact ov_pure rfl | (apply kOBin; (first | exact aBin)) | (apply kOCall; (first | (apply kCallB; (first | exact (ov_lenR (fun w hw => RRow.keep hu (hw.cells rfl)) rfl) | exact (ov_lenR (fun w hw => RRow.keep hv (hw.cells rfl)) rfl))))) | (apply kOLoad; (first | exact (ov_ldRZ (fun w hw => RRow.keep hu (hw.cells rfl)) rfl rfl (by omega) rfl) | exact (ov_ldRZ (fun w hw => RRow.keep hv (hw.cells rfl)) rfl rfl (by omega) rfl))) | (apply kOIdx; (first | exact (ov_idxR (fun w hw => RRow.keep hu (hw.cells rfl)) rfl rfl (by omega)) | exact (ov_idxR (fun w hw => RRow.keep hv (hw.cells rfl)) rfl rfl (by omega)))) | exact (ov_neRect rfl rfl))) | (refine kN ?_; (apply s_step)) | refine l_then ?_ | (refine kC ?_; (first | (refine c_loopV (ι := Nat) (fun j => j ≤ k.length ∧ eqTo k l DRect.zero j) (fun j => [(5, .int .i64 (j : Int))]) (fun _ => []) (fun j => k.length - j) 0 ⟨by omega, eqTo_zero _ _ _⟩ rfl (fun _ => rfl) ⟨rfl, trivial⟩ (fun w hw => hw) (fun j hj => ?_)) | refine c_seq ?_ | refine c_regionN rfl ?_ | refine c_ret ?_ | (refine kCond ?_; (((first | refine c_cond_d rfl (fun h => ?_) (fun h => ?_) | refine c_cond_n rfl (fun h => ?_) (fun h => ?_)) <;> (try (first | contradiction | (exfalso; omega)))))) | refine c_block ?_ | refine c_skip ?_ | refine c_exit ?_ | refine c_regionQN rfl rfl (by decide +kernel) ?_)) | apply s_stepQ | refine lQ_then ?_ | (refine kE ?_; (first | refine e_then_r ?_ | refine e_block_r ?_ | refine e_then_n ?_ | refine e_then_x ?_ | refine e_block_n ?_ | refine e_block_x ?_)) | refine l_ends ?_)
  all_goals first
    | exact s_leave1 rfl rfl (fun w hw => ⟨ret_false (ne_of_len (by omega)), hw.below⟩)
    | exact s_leave1 rfl rfl (fun w hw => ⟨ret_false (fun e => by subst e; contradiction), hw.below⟩)
    | exact e_round (j + 1) ⟨by omega, eqTo_next hj.2 (by assumption)⟩ ⟨rfl, (by repeat' first | exact trivial | refine ⟨rfl, ?_⟩)⟩ (fun w hw => hw) (by omega)
    | exact s_leave1 rfl rfl (fun w hw => ⟨ret_true (list_eq_of_getD DRect.zero (by omega) (fun i hi => hj.2 i (by omega))), hw.below⟩)
set_option maxHeartbeats 4000000 in
theorem c_sregionOk (v : Value) (l : List DRect) (W : World) (hv : RRects W v l) : SYields Try.prog 107 #[vReg v] (.bool (decide (regionOk l))) W := by
  (first | apply SYields.mk | apply SYieldsF.mk | skip); refine s_enter Try.func107 rfl Try.ntmps107 rfl ?_
  repeat' (first | exact rfl | (apply kO; (first | exact ov_pure rfl | (apply kOCall; ((apply kCallF; (first | exact (ov_call rfl (fun w hw => c_l03Same _ _ (canon (points l)) l w (ORects.rd (by assumption) (hfA hw)) (RVs.keep hv (hw.cells rfl)))))))) | (apply kOLoad; (exact aLdF)) | exact ov_fieldAddr rfl | exact (ov_field1 (ft := 32) rfl rfl rfl rfl) | exact (ov_field1 (ft := 37) rfl rfl rfl rfl))) | (refine kN ?_; (first | (refine kCall ?_; (first | (refine kWFn 112 ?_; (refine s_callF (fun u H => OReg u (canon (points l)) H) rfl (fun w hw => c_sregionOf v l w (hv.keep (hw.cells rfl))) rfl (fun u H hu => ?_); obtain ⟨d', rfl, hu⟩ := hu)) | apply s_step)) | refine s_boxS rfl rfl (fun b hb => ?_) | apply s_step)) | (refine kS ?_; (first | refine h_exec rfl ?_ | refine h_nil ?_ | apply h_take)) | (refine kBack ?_; (refine h_backN rfl subA ?_)) | refine l_then ?_ | (refine kC ?_; (first | (refine kReg 1 ?_; refine c_regionSN (SPlan.take 0 (SPlan.take 1 (SPlan.take 4 (SPlan.take 5 (SPlan.run 2 (SPlan.take 3 (SPlan.run 6 (SPlan.take 7 SPlan.done)))))))) none rfl rfl (by decide +kernel) ?_) | refine c_seq ?_ | refine c_regionN rfl ?_ | refine c_ret ?_)) | (refine kE ?_; (refine e_then_n ?_)))
  all_goals refine s_leave1 rfl rfl (fun w hw => ⟨ret_dec Iff.rfl, hw.below⟩)
set_option maxHeartbeats 4000000 in
theorem c_sareaOf (v : Value) (l : List DRect) (W : World) (hv : RRects W v l) (hlen : l.length ≤ 1000000) : SYields Try.prog 51 #[vReg v] (.int .i64 (areaOf l)) W := by
  have hll := hv.len
  have hv' := hv.form
  obtain ⟨_, _, rfl⟩ := hv'
  by_cases hok : regionOk l
  · have h128 := hok.length
    have hbd := fun j => area_take_bd hok j
    have hab := fun (j : Nat) (hj : j < l.length) => inScreen_area (getD_inScreen hok hj)
    have hsd := fun (j : Nat) (hj : j < l.length) => inScreen_side (getD_inScreen hok hj)
    (first | apply SYields.mk | apply SYieldsF.mk | skip); refine s_enter Try.func51 rfl Try.ntmps51 rfl ?_
    repeat' (first | exact rfl | (apply kO; (first | exact ov_pure rfl | (apply kOBin; (first | exact aBin | exact (ov_mul rfl rfl (by have := hab j (by omega); (try simp only [Int.toNat_natCast]); omega)) | exact (ov_add rfl rfl (by have := hab j (by omega); have := hbd j; (try simp only [Int.toNat_natCast]); omega)))) | (apply kOCall; (first | (apply kCallF; (first | exact (ov_call rfl (fun w hw => c_sregionOk _ l w (hv.keep (hw.cells rfl)))))) | (apply kCallB; (exact aBlt)))) | (apply kOLoad; (first | exact (ov_ldR (fun w hw => RRow.keep hv (hw.cells rfl)) rfl rfl (by omega) rfl) | exact aLdF)) | exact ov_fieldAddr rfl | (apply kOIdx; (exact (ov_idxR (fun w hw => RRow.keep hv (hw.cells rfl)) rfl rfl (by omega)))))) | (refine kN ?_; (first | refine s_boxS rfl rfl (fun b hb => ?_) | apply s_step)) | (refine kG ?_; (first | refine s_gyes rfl rfl rfl ?_ | refine s_gno rfl rfl rfl rfl rfl ?_ | ((refine s_split_d rfl rfl (fun h => ?_) (fun h => ?_)) <;> (try (first | contradiction | (exfalso; omega) | (exfalso; exact absurd hok (by assumption))))))) | refine l_then ?_ | (refine kC ?_; (first | (refine c_loopV (ι := Nat) (fun j => j ≤ l.length) (fun j => [(3, .int .i64 (area (l.take j))), (4, .int .i64 (j : Int))]) (fun _ => [_]) (fun j => l.length - j) 0 (by omega) rfl (fun _ => rfl) ⟨rfl, rfl, trivial⟩ (fun w hw => hw) (fun j hj => ?_)) | refine c_seq ?_ | refine c_regionN rfl ?_ | refine c_ret ?_ | (refine kCond ?_; (first | refine c_cond_f rfl ?_ | ((refine c_cond_d rfl (fun h => ?_) (fun h => ?_)) <;> (try (first | contradiction | (exfalso; omega) | (exfalso; exact absurd hok (by assumption))))))) | refine c_block ?_ | refine c_skip ?_ | refine c_exit ?_ | refine c_regionQN rfl rfl (by decide +kernel) ?_)) | apply s_stepQ | refine lQ_ends ?_ | (refine kE ?_; (first | refine e_then_n ?_ | refine e_then_x ?_ | refine e_block_n ?_ | refine e_block_x ?_)) | refine l_ends ?_)
    all_goals first
      | exact e_round (j + 1) (by omega) ⟨slook_to rfl (vint_to (area_take_succ (by omega)).symm), slook_to rfl (vint_to (by push_cast; rfl)), (by repeat' first | exact trivial | refine ⟨rfl, ?_⟩)⟩ (fun w hw => hw) (by omega)
      | exact s_leave1 rfl rfl (fun w hw => ⟨ret_int (by unfold areaOf; rw [if_pos hok, List.take_of_length_le (by omega)]), hw.below⟩)
  · (first | apply SYields.mk | apply SYieldsF.mk | skip); refine s_enter Try.func51 rfl Try.ntmps51 rfl ?_
    repeat' (first | exact rfl | (apply kO; (first | exact ov_pure rfl | (apply kOBin; (first | exact aBin)) | (apply kOCall; (first | (apply kCallF; (first | exact (ov_call rfl (fun w hw => c_sregionOk _ l w (hv.keep (hw.cells rfl)))))) | (apply kCallB; (exact aBlt)))) | (apply kOLoad; (exact aLdF)) | exact ov_fieldAddr rfl | (apply kOIdx; (first | exact aIdx)))) | (refine kN ?_; (first | refine s_boxS rfl rfl (fun b hb => ?_) | apply s_step)) | (refine kG ?_; (first | refine s_gyes rfl rfl rfl ?_ | refine s_gno rfl rfl rfl rfl rfl ?_ | ((refine s_split_d rfl rfl (fun h => ?_) (fun h => ?_)) <;> (try (first | contradiction | (exfalso; omega) | (exfalso; exact absurd (by assumption) hok)))))) | refine l_then ?_ | (refine kC ?_; (first | (refine c_loopV (ι := Nat) (fun j => j = 0) (fun j => [(3, .int .i64 0), (4, .int .i64 (j : Int))]) (fun _ => [_]) (fun j => 0) 0 rfl rfl (fun _ => rfl) ⟨rfl, rfl, trivial⟩ (fun w hw => hw) (fun j hj => ?_)) | refine c_seq ?_ | refine c_regionN rfl ?_ | refine c_ret ?_ | (refine kCond ?_; (first | refine c_cond_f rfl ?_ | ((refine c_cond_d rfl (fun h => ?_) (fun h => ?_)) <;> (try (first | contradiction | (exfalso; omega) | (exfalso; exact absurd (by assumption) hok)))))) | refine c_block ?_ | refine c_skip ?_ | refine c_exit ?_ | refine c_regionQN rfl rfl (by decide +kernel) ?_)) | apply s_stepQ | refine lQ_ends ?_ | (refine kE ?_; (first | refine e_then_n ?_ | refine e_then_x ?_ | refine e_block_n ?_ | refine e_block_x ?_)) | refine l_ends ?_)
    all_goals exact s_leave1 rfl rfl (fun w hw => ⟨ret_int (by unfold areaOf; rw [if_neg hok]), hw.below⟩)
end Go.Proofs.Ytpcammhmgleonaa
namespace Go.Proofs.Ytpcammhmgleonaa
open Go Sx
attribute [local irreducible] Exit.then Exit.inBlock bodyPost OVs OInts canonR rowR gvals points Sx.canon painted mapTo copyTo
theorem copyRegion_bad {to fr : DImg} {r : List DRect} (h : ¬ (to.ok ∧ fr.ok ∧ regionOk r)) : copyRegion to fr r = to := by unfold copyRegion; rw [if_neg h]
theorem place_bd {x y w : Int} (hx : 0 ≤ x ∧ x < w) (hy : 0 ≤ y ∧ y ≤ 16) (hw : w ≤ 16) : 0 ≤ y * w ∧ y * w ≤ 256 ∧ 0 ≤ y * w + x ∧ y * w + x ≤ 272 := by
  have := mul_bd (a := y) (b := w) (A := 16) (B := 16) (by omega) (by omega); omega
theorem copy_bit {g : Grid} {j i : Nat} (h : (if g j i = true then ((2 ^ i : Nat) : Int) else 0) ≠ 0) : g j i = true := by
  by_cases e : g j i = true
  · exact e
  · rw [if_neg e] at h; exact absurd rfl h
theorem copy_nobit {g : Grid} {j i : Nat} (h : ¬ (if g j i = true then ((2 ^ i : Nat) : Int) else 0) ≠ 0) : ¬ g j i = true := fun e => h (by
  rw [if_pos e]
  have : 0 < 2 ^ i := Nat.two_pow_pos i
  omega)
set_option maxHeartbeats 4000000 in
theorem c_icopyRegion (to fr : DImg) (r : List DRect) (dt df vr : Value) (W : World) (ht : RInts W dt to.data) (hf : RInts W df fr.data) (hr : RRects W vr r) (hl : to.data.length ≤ 1000000000) :
    SYieldsF Try.prog 102 #[vImg to dt, vImg fr df, vReg vr] (fun u H => OImg u (copyRegion to fr r) H) W := by
  have htf := ht.form
  have hff := hf.form
  obtain ⟨_, _, rfl⟩ := htf
  obtain ⟨_, _, rfl⟩ := hff
  by_cases hok : to.ok ∧ fr.ok ∧ regionOk r
  · have hto := hok.1
    have hfo := hok.2.1
    have hW := hto.1
    have hH := hto.2.1
    have hFW := hfo.1
    have hFH := hfo.2.1
    have hml := fun (f : Int → Int → Int) => mapTo_length f to.W (to.W * to.H).toNat
    have hfl := hfo.lenN
    (first | apply SYields.mk | apply SYieldsF.mk | skip); refine s_enter Try.func102 rfl Try.ntmps102 rfl ?_
    repeat' (first | exact rfl | (apply kO; (first | exact ov_pure rfl | (apply kOBin; (first | exact aBin | exact (ov_andBit rfl rfl (by omega)) | exact (ov_mul rfl rfl (by have := place_bd (x := (i.1 : Int)) (y := (j.1 : Int)) (w := to.W) (by omega) (by omega) (by omega); omega)) | exact (ov_mul rfl rfl (by have := place_bd (x := (i.1 : Int)) (y := (j.1 : Int)) (w := fr.W) (by omega) (by omega) (by omega); omega)) | exact (ov_add rfl rfl (by have := place_bd (x := (i.1 : Int)) (y := (j.1 : Int)) (w := to.W) (by omega) (by omega) (by omega); omega)) | exact (ov_add rfl rfl (by have := place_bd (x := (i.1 : Int)) (y := (j.1 : Int)) (w := fr.W) (by omega) (by omega) (by omega); omega)))) | (apply kOCall; (first | (apply kCallF; (first | exact (ov_call rfl (fun w hw => c_iimageOk to _ w (riA hw))) | exact (ov_call rfl (fun w hw => c_iimageOk fr _ w (riA hw))) | exact (ov_call rfl (fun w hw => c_iregionOk vr r w (hr.keep (hw.cells rfl)))) | exact (ov_call rfl (fun w hw => c_gridOfRegion vr r w (hr.keep (hw.cells rfl)))))) | (apply kCallB; (exact aBlt)))) | (apply kOLoad; (first | exact (ov_ldG (points r) rfl rfl gpA (by omega)) | exact (ov_ldR0 (fun w hw => (rrA hw)) rfl rfl (by have := place_lt (w := fr.W) (h := fr.H) (x := (i.1 : Int)) (y := (j.1 : Int)) (by omega) (by omega); omega) rfl) | exact aLdF)) | exact ov_fieldAddr rfl | (apply kOIdx; (first | exact (ov_indexAddrA rfl rfl (by omega)) | exact (ov_idxR (fun w hw => (rrA hw)) rfl rfl (by have := place_lt (w := fr.W) (h := fr.H) (x := (i.1 : Int)) (y := (j.1 : Int)) (by omega) (by omega); omega)) | exact (ov_idxR (fun w hw => (rrA hw)) rfl rfl (by rw [hml]; have := place_lt (w := to.W) (h := to.H) (x := (i.1 : Int)) (y := (j.1 : Int)) (by omega) (by omega); omega)))) | exact (ov_bit rfl rfl (by omega)))) | (refine kN ?_; (first | (refine kCall ?_; (first | (refine kWFn 78 ?_; (refine s_callF (fun u H => OImg u to H) rfl (fun w hw => c_copyImage to _ w (riA hw) hl) rfl (fun u H hu => ?_); obtain ⟨d', rfl, hu⟩ := hu; have f1 := hu.form; obtain ⟨_, _, rfl⟩ := f1)) | apply s_step)) | (refine kStore ?_; (first | (refine s_setI _ rfl rfl (by assumption) gpA (by rw [hml]; have := place_lt (w := to.W) (h := to.H) (x := (i.1 : Int)) (y := (j.1 : Int)) (by omega) (by omega); omega) (fun H' hu => ?_)) | refine s_storeS _ rfl rfl gpA rfl rfl (by rfl) ?_ | refine s_storeS _ rfl rfl gpA rfl (ones_img oiA) (by rfl) ?_)) | refine s_boxS rfl rfl (fun b hb => ?_) | refine s_allocS rfl (fun b hb => ?_) | apply s_step)) | (refine kG ?_; (first | refine s_gyes rfl rfl rfl ?_ | refine s_gno rfl rfl rfl rfl rfl ?_ | ((refine s_split_n rfl rfl (fun h => ?_) (fun h => ?_)) <;> (try (first | contradiction | (exfalso; omega) | (exfalso; exact absurd hok.1 (by assumption)) | (exfalso; exact absurd hok.2.1 (by assumption)) | (exfalso; exact absurd hok.2.2 (by assumption))))))) | (refine kS ?_; (first | refine h_exec rfl ?_ | apply h_take)) | (refine kBack ?_; (refine h_back_last rfl ?_)) | refine l_then ?_ | (refine kC ?_; (first | (refine kReg 12 ?_; refine c_regionSN (SPlan.take 0 (SPlan.take 1 (SPlan.take 2 (SPlan.take 3 (SPlan.take 4 (SPlan.take 5 (SPlan.take 6 (SPlan.take 7 (SPlan.take 8 (SPlan.take 9 (SPlan.take 10 (SPlan.take 11 (SPlan.take 12 (SPlan.take 13 (SPlan.take 14 (SPlan.take 15 (SPlan.take 16 (SPlan.take 17 (SPlan.take 18 (SPlan.run 19 SPlan.done)))))))))))))))))))) (some 19) rfl rfl (by decide +kernel) ?_) | (refine kReg 12 ?_; refine c_regionSN (SPlan.take 0 (SPlan.take 1 (SPlan.take 2 (SPlan.take 3 (SPlan.take 4 (SPlan.take 5 (SPlan.take 6 (SPlan.take 7 (SPlan.take 8 (SPlan.take 9 (SPlan.take 10 (SPlan.take 11 (SPlan.take 12 (SPlan.take 13 (SPlan.take 14 (SPlan.take 15 (SPlan.take 16 (SPlan.take 17 (SPlan.take 18 (SPlan.run 19 SPlan.done)))))))))))))))))))) none rfl rfl (by decide +kernel) ?_) | (refine kLoopR 6 ?_; refine c_loopV (ι := Nat × SPiece) (fun j => (j.1 : Int) ≤ min to.H fr.H ∧ OInts 3 _ (mapTo (copyTo to fr (points r) j.1 0) to.W (to.W * to.H).toNat) j.2) (fun j => [(34, .int .i64 (j.1 : Int))]) (fun j => [_, _, j.2, _, _, _, _]) (fun j => (min to.H fr.H).toNat - j.1) (0, _) ⟨by dsimp only; omega, by dsimp only; rw [copyTo_zero to fr (points r) hto]; exact hu⟩ rfl (fun _ => rfl) ⟨rfl, trivial⟩ (fun w hw => hw) (fun j hj => ?_); obtain ⟨hj1, hj2⟩ := hj) | (refine kLoopR 9 ?_; refine c_loopV (ι := Nat × SPiece) (fun i => (i.1 : Int) ≤ min to.W fr.W ∧ OInts 3 _ (mapTo (copyTo to fr (points r) j.1 i.1) to.W (to.W * to.H).toNat) i.2) (fun i => [(42, .int .i64 (i.1 : Int))]) (fun i => [_, _, i.2, _, _, _, _]) (fun i => (min to.W fr.W).toNat - i.1) (0, _) ⟨by dsimp only; omega, hj2⟩ rfl (fun _ => rfl) ⟨rfl, trivial⟩ (fun w hw => hw) (fun i hi => ?_); obtain ⟨hi1, hi2⟩ := hi) | refine c_seq ?_ | refine c_regionN rfl ?_ | refine c_ret ?_ | (refine kCond ?_; (first | refine c_cond_t rfl ?_ | ((first | refine c_cond_d rfl (fun h => ?_) (fun h => ?_) | refine c_cond_n rfl (fun h => ?_) (fun h => ?_)) <;> (try (first | contradiction | (exfalso; omega) | (exfalso; exact absurd hok.1 (by assumption)) | (exfalso; exact absurd hok.2.1 (by assumption)) | (exfalso; exact absurd hok.2.2 (by assumption))))))) | refine c_block ?_ | refine c_skip ?_ | refine c_exit ?_ | refine c_regionQN rfl rfl (by decide +kernel) ?_)) | apply s_stepQ | refine lQ_then ?_ | (refine kE ?_; (first | refine e_then_r ?_ | refine e_then_n ?_ | refine e_then_x ?_ | refine e_block_n ?_ | refine e_block_x ?_)) | refine l_ends ?_)
    · have hg : points r j.1 i.1 = true := copy_bit h
      rw [copyTo_yes hto hfo (by omega) (by omega) hg] at hu
      exact e_round (i.1 + 1, H') ⟨by dsimp only; omega, hu⟩ ⟨slook_to rfl (vint_to (by push_cast; rfl)), (by repeat' first | exact trivial | refine ⟨rfl, ?_⟩)⟩ (fun w hw => hw) (by dsimp only; omega)
    · have hg : ¬ points r j.1 i.1 = true := copy_nobit h
      exact e_round (i.1 + 1, i.2) ⟨by dsimp only; omega, by dsimp only; rw [copyTo_no (by omega) hg]; exact hi2⟩ ⟨slook_to rfl (vint_to (by push_cast; rfl)), (by repeat' first | exact trivial | refine ⟨rfl, ?_⟩)⟩ (fun w hw => hw) (by dsimp only; omega)
    · rw [copyTo_row (by omega)] at hi2
      exact e_round (j.1 + 1, i.2) ⟨by dsimp only; omega, hi2⟩ ⟨slook_to rfl (vint_to (by push_cast; rfl)), (by repeat' first | exact trivial | refine ⟨rfl, ?_⟩)⟩ (fun w hw => hw) (by dsimp only; omega)
    · rw [← copyTo_all hto hfo hok.2.2 (show (j.1 : Int) = min to.H fr.H by omega)]
      exact s_leaveSF rfl rfl rfl fwA (fun w hw => ⟨_, _, rfl, ⟨_, rfl, hj2⟩, hw.toFresh (H := j.2) gpA⟩)
  · rw [copyRegion_bad hok]
    (first | apply SYields.mk | apply SYieldsF.mk | skip); refine s_enter Try.func102 rfl Try.ntmps102 rfl ?_
    repeat' (first | exact rfl | (apply kO; (first | exact ov_pure rfl | (apply kOBin; (first | exact aBin)) | (apply kOCall; (first | (apply kCallF; (first | exact (ov_call rfl (fun w hw => c_iimageOk to _ w (riA hw))) | exact (ov_call rfl (fun w hw => c_iimageOk fr _ w (riA hw))) | exact (ov_call rfl (fun w hw => c_iregionOk vr r w (hr.keep (hw.cells rfl)))))) | (apply kCallB; (exact aBlt)))) | (apply kOLoad; (exact aLdF)) | exact ov_fieldAddr rfl | (apply kOIdx; (first | exact aIdx)))) | (refine kN ?_; (first | (refine kCall ?_; (first | (refine kWFn 78 ?_; (refine s_callF (fun u H => OImg u to H) rfl (fun w hw => c_copyImage to _ w (riA hw) hl) rfl (fun u H hu => ?_); obtain ⟨d', rfl, hu⟩ := hu; have f1 := hu.form; obtain ⟨_, _, rfl⟩ := f1)) | apply s_step)) | (refine kStore ?_; (first | refine s_storeS _ rfl rfl gpA rfl rfl (by rfl) ?_ | refine s_storeS _ rfl rfl gpA rfl (ones_img oiA) (by rfl) ?_)) | refine s_boxS rfl rfl (fun b hb => ?_) | refine s_allocS rfl (fun b hb => ?_) | apply s_step)) | (refine kG ?_; (first | refine s_gyes rfl rfl rfl ?_ | refine s_gno rfl rfl rfl rfl rfl ?_ | ((refine s_split_n rfl rfl (fun h => ?_) (fun h => ?_)) <;> (try (first | contradiction | (exfalso; omega) | (exfalso; exact absurd ⟨by assumption, by assumption, by assumption⟩ hok)))))) | refine l_then ?_ | (refine kC ?_; (first | refine c_seq ?_ | refine c_regionN rfl ?_ | refine c_ret ?_ | (refine kCond ?_; (first | refine c_cond_t rfl ?_ | ((first | refine c_cond_d rfl (fun h => ?_) (fun h => ?_) | refine c_cond_n rfl (fun h => ?_) (fun h => ?_)) <;> (try (first | contradiction | (exfalso; omega) | (exfalso; exact absurd ⟨by assumption, by assumption, by assumption⟩ hok)))))) | refine c_block ?_ | refine c_skip ?_ | refine c_exit ?_ | refine c_regionQN rfl rfl (by decide +kernel) ?_)) | apply s_stepQ | refine lQ_then ?_ | (refine kE ?_; (first | refine e_then_r ?_ | refine e_then_n ?_ | refine e_then_x ?_ | refine e_block_n ?_ | refine e_block_x ?_)) | refine l_ends ?_)
    all_goals (refine kE ?_; refine s_leaveSF rfl rfl rfl fwA (fun w hw => ?_))
    all_goals exact ⟨_, _, rfl, ⟨_, rfl, hu⟩, hw.toFresh (H := H) gpA⟩
end Go.Proofs.Ytpcammhmgleonaa
namespace Sx
end Sx
namespace Go.Proofs.Ytpcammhmgleonaa
open Go Sx
attribute [local irreducible] Exit.then Exit.inBlock bodyPost OVs OInts painted copyRegion
set_option maxHeartbeats 2000000 in
theorem c_ipaintInto (i : DImg) (s : DScene) (r : List DRect) (di v vr : Value) (W : World) (hi : RInts W di i.data) (hv : RS eSurf W v s.ss) (hr : RRects W vr r) (hl : i.data.length ≤ 1000000000) :
    SYieldsF Try.prog 48 #[vImg i di, vScene s v, vReg vr] (fun u H => OImg u (paintInto i s r) H) W := by
  have hif := hi.form
  obtain ⟨_, _, rfl⟩ := hif
  have hrf := hr.form
  obtain ⟨_, _, rfl⟩ := hrf
  by_cases hok : s.ok
  · have hp : paintInto i s r = copyRegion i (painted s) r := by unfold paintInto; rw [if_pos hok]
    rw [hp]
    (first | apply SYields.mk | apply SYieldsF.mk | skip); refine s_enter Try.func48 rfl Try.ntmps48 rfl ?_
    repeat' (first | exact rfl | (apply kO; (first | exact ov_pure rfl | (apply kOCall; ((apply kCallF; (first | exact (ov_call rfl (fun w hw => c_isceneOk _ _ w (hv.keep (hw.cells rfl)))))))) | (apply kOLoad; (exact aLdF)))) | (refine kN ?_; (first | (refine kCall ?_; (first | (refine kWFn 91 ?_; (refine s_callF (fun u H => OImg u (painted s) H) rfl (fun w hw => c_painted s _ w hok (hv.keep (hw.cells rfl))) rfl (fun u H hu => ?_); obtain ⟨d', rfl, hu⟩ := hu; have f1 := hu.form; obtain ⟨_, _, rfl⟩ := f1)) | (refine kWFn 102 ?_; (refine s_callF (fun u H => OImg u (copyRegion i (painted s) r) H) rfl (fun w hw => c_icopyRegion i (painted s) r _ _ _ w (riA hw) (riA hw) (hr.keep (hw.cells rfl)) hl) rfl (fun u H hu => ?_); obtain ⟨d', rfl, hu⟩ := hu; have f1 := hu.form; obtain ⟨_, _, rfl⟩ := f1)) | apply s_step)) | (refine kStore ?_; (first | refine s_storeS _ rfl rfl gpA rfl rfl (by rfl) ?_ | refine s_storeS _ rfl rfl gpA rfl (ones_img oiA) (by rfl) ?_)) | refine s_boxS rfl rfl (fun b hb => ?_) | refine s_allocS rfl (fun b hb => ?_) | apply s_step)) | (refine kS ?_; (first | refine h_exec rfl ?_ | apply h_take)) | (refine kBack ?_; (first | refine h_back_last rfl ?_ | refine h_backN rfl subA ?_)) | refine l_then ?_ | (refine kC ?_; (first | (refine kReg 3 ?_; refine c_regionSN (SPlan.take 0 (SPlan.take 1 (SPlan.take 3 (SPlan.run 2 (SPlan.run 4 (SPlan.run 5 SPlan.done)))))) (some 5) rfl rfl (by decide +kernel) ?_) | (refine kReg 3 ?_; refine c_regionSN (SPlan.take 0 (SPlan.take 1 (SPlan.take 3 (SPlan.run 2 (SPlan.run 4 (SPlan.run 5 SPlan.done)))))) none rfl rfl (by decide +kernel) ?_) | refine c_seq ?_ | refine c_regionN rfl ?_ | refine c_ret ?_ | (refine kCond ?_; (((refine c_cond_n rfl (fun h => ?_) (fun h => ?_)) <;> (try (first | contradiction | (exfalso; omega) | (exfalso; exact absurd hok (by assumption))))))) | refine c_skip ?_)) | (refine kE ?_; (first | refine e_then_r ?_ | refine e_then_n ?_)))
    all_goals (refine kE ?_; refine s_leaveSF rfl rfl rfl fwA (fun w hw => ?_))
    all_goals exact ⟨_, _, rfl, ⟨_, rfl, hu⟩, hw.toFresh (H := H) gpA⟩
  · have hp : paintInto i s r = i := by unfold paintInto; rw [if_neg hok]
    rw [hp]
    (first | apply SYields.mk | apply SYieldsF.mk | skip); refine s_enter Try.func48 rfl Try.ntmps48 rfl ?_
    repeat' (first | exact rfl | (apply kO; (first | exact ov_pure rfl | (apply kOCall; ((apply kCallF; (first | exact (ov_call rfl (fun w hw => c_isceneOk _ _ w (hv.keep (hw.cells rfl)))))))) | (apply kOLoad; (exact aLdF)))) | (refine kN ?_; (first | (refine kCall ?_; (first | (refine kWFn 78 ?_; (refine s_callF (fun u H => OImg u i H) rfl (fun w hw => c_copyImage i _ w (riA hw) hl) rfl (fun u H hu => ?_); obtain ⟨d', rfl, hu⟩ := hu; have f1 := hu.form; obtain ⟨_, _, rfl⟩ := f1)) | apply s_step)) | (refine kStore ?_; (first | refine s_storeS _ rfl rfl gpA rfl rfl (by rfl) ?_ | refine s_storeS _ rfl rfl gpA rfl (ones_img oiA) (by rfl) ?_)) | refine s_boxS rfl rfl (fun b hb => ?_) | refine s_allocS rfl (fun b hb => ?_) | apply s_step)) | refine l_then ?_ | (refine kC ?_; (first | refine c_seq ?_ | refine c_regionN rfl ?_ | refine c_ret ?_ | (refine kCond ?_; (((refine c_cond_n rfl (fun h => ?_) (fun h => ?_)) <;> (try (first | contradiction | (exfalso; omega) | (exfalso; exact absurd (by assumption) hok)))))) | refine c_skip ?_)) | (refine kE ?_; (first | refine e_then_r ?_ | refine e_then_n ?_)))
    all_goals (refine kE ?_; refine s_leaveSF rfl rfl rfl fwA (fun w hw => ?_))
    all_goals exact ⟨_, _, rfl, ⟨_, rfl, hu⟩, hw.toFresh (H := H) gpA⟩
end Go.Proofs.Ytpcammhmgleonaa
namespace Go.Proofs.Ytpcammhmgleonaa
open Go Sx
attribute [local irreducible] Exit.then Exit.inBlock bodyPost OVs OInts canonR rowR points Sx.canon mapTo pvF seenG coverG
set_option maxHeartbeats 4000000 in
theorem c_ipaintVisible (s : DScene) (v : Value) (W : World) (hv : RS eSurf W v s.ss) : SYieldsF Try.prog 49 #[vScene s v] (fun u H => OImgN u (paintVisible s) (visibleCost s) H) W := by
  have hve := hv
  obtain ⟨ds, hv⟩ := hv
  have hvf := hv.form
  obtain ⟨va, vc, rfl⟩ := hvf
  by_cases hok : s.ok
  · have hW := hok.1
    have hH := hok.2.1
    have hlen := hok.2.2.2.1
    have hpos := fun (k : Nat) (hk : k < s.ss.length) => ((getD_ok hok hk).2.2.2.2.2.2.len).1
    have hbd := pvN_bd s
    have hz : areaOf (canon ((rectG ⟨0, 0, s.W, s.H⟩).without (coverG s 0))) = pvN s 0 := by rw [areaOf_canon]; rfl
    have hp : paintVisible s = ⟨s.W, s.H, mapTo (pvF s s.ss.length) s.W (s.W * s.H).toNat⟩ := by unfold paintVisible; rw [if_pos hok]; rfl
    have hc : visibleCost s = pvN s s.ss.length := by unfold visibleCost; rw [if_pos hok]
    rw [hp, hc]
    (first | apply SYields.mk | apply SYieldsF.mk | skip); refine s_enter Try.func49 rfl Try.ntmps49 rfl ?_
    repeat' (first | exact rfl | (apply kO; (first | exact ov_pure rfl | (apply kOBin; (first | exact aBin | exact (ov_add rfl rfl (by have := hbd j.1; have := hbd (j.1 + 1); rw [pvN_one hok (k := j.1) (by omega) (by assumption)]; omega)))) | (apply kOCall; (first | (apply kCallF; (first | exact (ov_call rfl (fun w hw => c_isceneOk _ _ w (hve.keep (hw.cells rfl)))) | exact (ov_call rfl (fun w hw => c_imageRect _ _ _ w)) | exact (ov_call rfl (fun w hw => c_gridOf _ w)) | exact (ov_call rfl (fun w hw => c_covered s _ (-1) w (by omega) hlen (hve.keep (hw.cells rfl)))) | exact (ov_call rfl (fun w hw => c_gwithout _ _ w)) | exact (ov_call rfl (fun w hw => c_iareaOf _ _ w (ORects.rd (by assumption) (hfA hw)))) | exact (ov_call rfl (fun w hw => c_seen s _ (j.1 : Int) w (by omega) hlen (hve.keep (hw.cells rfl)))))) | (apply kCallB; (exact aBlt)))) | (apply kOLoad; (first | exact (ov_ldRZ (fun w hw => hv.row.keep (hw.cells rfl)) rfl rfl (by omega) rfl) | exact aLdF)) | exact ov_fieldAddr rfl | (apply kOIdx; (exact (ov_idxR (fun w hw => hv.row.keep (hw.cells rfl)) rfl rfl (by omega)))) | exact aNew)) | (refine kN ?_; (first | (refine kCall ?_; (first | (refine kWFn 59 ?_; (refine s_callF (fun u H => OReg u (canon ((rectG ⟨0, 0, s.W, s.H⟩).without (coverG s 0))) H) rfl (fun w hw => c_gregion ((rectG ⟨0, 0, s.W, s.H⟩).without (coverG s 0)) w) rfl (fun u H hq => ?_); obtain ⟨d2, rfl, hq⟩ := hq)) | (refine kWFn 103 ?_; (refine s_callF (fun u H => OImg u ⟨s.W, s.H, mapTo (pvF s 0) s.W (s.W * s.H).toNat⟩ H) rfl (fun w hw => (by rw [pvF_zero, newPaint s]; exact c_inewImage s.W s.H s.Back w hW hH hok.back)) rfl (fun u H hu => ?_); obtain ⟨d', rfl, hu⟩ := hu; have f1 := hu.form; obtain ⟨_, _, rfl⟩ := f1)) | (refine kWFn 106 ?_; (refine s_callG _ (H := j.2) (fun u H' F => u = .int .i64 (hitN (s.ss.getD j.1 default) (seenG s j.1) s.W s.H ((surfSize (s.ss.getD j.1 default)).1 * (surfSize (s.ss.getD j.1 default)).2).toNat) ∧ OInts 3 _ (mapTo (oneTo (s.ss.getD j.1 default) (seenG s j.1) (pvF s j.1) ((surfSize (s.ss.getD j.1 default)).1 * (surfSize (s.ss.getD j.1 default)).2).toNat) s.W (s.W * s.H).toNat) H' ∧ F = []) rfl gpA (fun w hw hh hn => c_paintOne s.W s.H (pvF s j.1) _ (s.ss.getD j.1 default) _ (seenG s j.1) j.2 w hW hH (getD_ok hok (by omega)) (fun a c => pvF_pix hok (by omega) a c) hj2 (RInts.keep (hv.rd _ (by omega)) (hw.cells rfl)) (apart_new hw gpA (hv.rd _ (by omega)) (hpos _ (by omega))) hh hn) rfl (fun u H' F hst => ?_); obtain ⟨rfl, hst, rfl⟩ := hst)) | apply s_step)) | (refine kStore ?_; (first | (refine s_storeS _ rfl rfl gpA rfl (eSurf_ones (RInts.one (hv.rd _ (by omega)))) (by rfl) ?_) | refine s_storeS _ rfl rfl gpA rfl rfl (by rfl) ?_ | refine s_storeS _ rfl rfl gpA rfl (ones_img oiA) (by rfl) ?_)) | refine s_boxS rfl rfl (fun b hb => ?_) | refine s_allocS rfl (fun b hb => ?_) | apply s_step)) | (refine kS ?_; (first | refine h_exec rfl ?_ | refine h_nil ?_ | apply h_take)) | (refine kBack ?_; (refine h_backN rfl subA ?_)) | refine l_then ?_ | (refine kC ?_; (first | (refine kReg 4 ?_; refine c_regionSN (SPlan.take 0 (SPlan.take 3 (SPlan.run 1 (SPlan.run 2 (SPlan.run 4 (SPlan.run 5 (SPlan.run 6 (SPlan.run 7 (SPlan.take 8 SPlan.done))))))))) none rfl rfl (by decide +kernel) ?_) | (refine kReg 9 ?_; refine c_regionSubN (SPlan.take 0 (SPlan.take 1 (SPlan.take 2 (SPlan.take 3 (SPlan.take 4 (SPlan.run 5 (SPlan.run 6 (SPlan.take 7 (SPlan.take 8 SPlan.done))))))))) none [true, true, false, true, true, true] rfl rfl rfl (by decide +kernel) ?_) | (refine c_loopV (ι := Nat × SPiece) (fun j => j.1 ≤ s.ss.length ∧ OInts 3 _ (mapTo (pvF s j.1) s.W (s.W * s.H).toNat) j.2) (fun j => [(5, .int .i64 (pvN s j.1)), (30, .int .i64 (j.1 : Int))]) (fun j => [_, j.2, _, _]) (fun j => s.ss.length - j.1) (0, _) ⟨by dsimp only; omega, hu⟩ rfl (fun _ => rfl) ⟨slook_to rfl (vint_to hz), rfl, trivial⟩ (fun w hw => by first | exact hw | exact hw.sub (selO_sub [false, true, true, true, true] _ _ rfl) | exact hw.sub (by repeat' first | exact List.nil_sublist _ | exact List.Sublist.slnil | refine List.Sublist.cons_cons _ ?_ | refine List.Sublist.cons _ ?_)) (fun j hj => ?_); obtain ⟨hj1, hj2⟩ := hj) | refine c_seq ?_ | refine c_regionN rfl ?_ | refine c_ret ?_ | (refine kCond ?_; (first | ((first | refine c_cond_d rfl (fun h => ?_) (fun h => ?_) | refine c_cond_n rfl (fun h => ?_) (fun h => ?_)) <;> (try (first | contradiction | (exfalso; omega) | (exfalso; exact absurd hok (by assumption))))) | refine c_cond rfl (fun h => ?_) (fun h => ?_))) | refine c_block ?_ | refine c_skip ?_ | refine c_exit ?_)) | (refine kE ?_; (first | refine e_then_r ?_ | refine e_then_n ?_ | refine e_then_x ?_ | refine e_block_n ?_ | refine e_block_x ?_)) | refine l_ends ?_)
    · have hv1 : (s.ss.getD j.1 default).Visible = true := by assumption
      rw [pv_one hok (by omega) hv1] at hst
      exact e_round (j.1 + 1, H') ⟨by dsimp only; omega, hst⟩ ⟨slook_to rfl (vint_to (pvN_one hok (by omega) hv1)), slook_to rfl (vint_to (by push_cast; rfl)), (by repeat' first | exact trivial | refine ⟨rfl, ?_⟩)⟩ (fun w hw => hw.sub (selO_sub [false, false, true, true, true, true] _ _ rfl)) (by dsimp only; omega)
    · have hv0 : (s.ss.getD j.1 default).Visible = false := by assumption
      have hv1 : ¬ (s.ss.getD j.1 default).Visible = true := by rw [hv0]; simp
      exact e_round (j.1 + 1, j.2) ⟨by dsimp only; omega, by dsimp only; rw [pv_hid hok hv1]; exact hj2⟩ ⟨slook_to rfl (vint_to (pvN_hid hok hv1).symm), slook_to rfl (vint_to (by push_cast; rfl)), (by repeat' first | exact trivial | refine ⟨rfl, ?_⟩)⟩ (fun w hw => hw.sub (selO_sub [false, true, true, true, true] _ _ rfl)) (by dsimp only; omega)
    · have e : j.1 = s.ss.length := by omega
      have e2 : pvN s j.1 = pvN s s.ss.length := by rw [e]
      rw [e] at hj2
      exact s_leaveN rfl rfl (SRes.cellG rfl rfl fwA (.tmp rfl .nil)) (fun w hw => ⟨_, _, rfl, ⟨_, by rw [← e2], hj2⟩, hw.toFresh (H := j.2) gpA⟩) .ret (.inl rfl)
  · have hp : paintVisible s = DImg.zero := by unfold paintVisible; rw [if_neg hok]
    have hc : visibleCost s = 0 := by unfold visibleCost; rw [if_neg hok]
    rw [hp, hc]
    (first | apply SYields.mk | apply SYieldsF.mk | skip); refine s_enter Try.func49 rfl Try.ntmps49 rfl ?_
    repeat' (first | exact rfl | (apply kO; (first | exact ov_pure rfl | (apply kOBin; (first | exact aBin)) | (apply kOCall; (first | (apply kCallF; (first | exact (ov_call rfl (fun w hw => c_isceneOk _ _ w (hve.keep (hw.cells rfl)))))) | (apply kCallB; (exact aBlt)))) | (apply kOLoad; (exact aLdF)) | exact ov_fieldAddr rfl | (apply kOIdx; (first | exact aIdx)) | exact aNew)) | (refine kN ?_; (first | (refine kStore ?_; (first | refine s_storeS _ rfl rfl gpA rfl rfl (by rfl) ?_ | refine s_storeS _ rfl rfl gpA rfl (ones_img oiA) (by rfl) ?_)) | refine s_boxS rfl rfl (fun b hb => ?_) | refine s_allocS rfl (fun b hb => ?_) | apply s_step)) | refine l_then ?_ | (refine kC ?_; (first | refine c_seq ?_ | refine c_regionN rfl ?_ | refine c_ret ?_ | (refine kCond ?_; (first | ((first | refine c_cond_d rfl (fun h => ?_) (fun h => ?_) | refine c_cond_n rfl (fun h => ?_) (fun h => ?_)) <;> (try (first | contradiction | (exfalso; omega) | (exfalso; exact absurd (by assumption) hok)))) | refine c_cond rfl (fun h => ?_) (fun h => ?_))) | refine c_block ?_ | refine c_skip ?_ | refine c_exit ?_)) | (refine kE ?_; (first | refine e_then_r ?_ | refine e_then_n ?_ | refine e_then_x ?_ | refine e_block_n ?_ | refine e_block_x ?_)) | refine l_ends ?_)
    all_goals exact s_leaveN rfl rfl (SRes.cellG rfl rfl fwA (.tmp rfl .nil)) (fun w hw => ⟨_, [], rfl, ⟨_, rfl, OInts.nil _⟩, hw.toFresh0⟩) .ret (.inl rfl)
end Go.Proofs.Ytpcammhmgleonaa
namespace Go.Proofs.Ytpcammhmgleonaa
open Go Sx
attribute [local irreducible] Exit.then Exit.inBlock bodyPost
theorem bd256 {x : Int} (h : 0 ≤ x ∧ x ≤ 256) : -9223372036854775808 ≤ x ∧ x ≤ 9223372036854775807 := by omega
theorem bdsum {a x : Int} {j : Nat} (h1 : 0 ≤ a ∧ a ≤ 256 + 256 * (j : Int)) (hj : j ≤ 6) (h2 : 0 ≤ x ∧ x ≤ 256) : -9223372036854775808 ≤ a + x ∧ a + x ≤ 9223372036854775807 := by omega
theorem c_ipaintCost (s : DScene) (v : Value) (w : World) (hv : RS eSurf w v s.ss) : SYields Try.prog 50 #[vScene s v] (.int .i64 (paintCost s)) w := by
  have hve := hv
  obtain ⟨ds, hv⟩ := hv
  have hl := hv.row.len
  by_cases hok : s.ok
  · have hw := hok.1
    have hh := hok.2.1
    have hn := hok.2.2.2.1
    have hc := costTo_bd hw hh
    have hm := costStep_bd hw hh
    have hp := side_mul (w := s.W) (h := s.H) ⟨hw.1, hw.2, hh.1, hh.2⟩
    (first | apply SYields.mk | apply SYieldsF.mk | skip); refine s_enter Try.func50 rfl Try.ntmps50 rfl ?_
    repeat' (first | exact rfl | (apply kO; (first | exact ov_pure rfl | (apply kOBin; (first | exact aBin | exact (ov_mul rfl rfl (bd256 (hm _))) | exact (ov_add rfl rfl (bdsum (hc j) (by omega) (hm _))))) | (apply kOCall; (first | (apply kCallF; (first | exact (ov_call rfl (fun w hw => c_isceneOk _ _ w (hve.keep (hw.cells rfl)))) | exact (ov_call rfl (fun w hw => c_isurfaceRect _ _ w (RInts.keep (hv.rd _ (by omega)) (hw.cells rfl)))) | exact (ov_call rfl (fun w hw => c_iintersect _ ⟨0, 0, _, _⟩ w)))) | (apply kCallB; (exact aLenR)))) | (apply kOLoad; (first | exact aLdF | exact aLdR)) | exact ov_fieldAddr rfl | (apply kOIdx; (first | exact aIdx)) | exact aNew)) | (refine kN ?_; (first | (refine kStore ?_; (first | (refine s_storeS _ rfl rfl gpA rfl (eSurf_ones (RInts.one (hv.rd _ (by omega)))) (by rfl) ?_) | refine s_storeS _ rfl rfl gpA rfl rfl (by rfl) ?_ | refine s_storeS _ rfl rfl gpA rfl (ones_img oiA) (by rfl) ?_)) | refine s_boxS rfl rfl (fun b hb => ?_) | refine s_allocS rfl (fun b hb => ?_) | apply s_step)) | (refine kS ?_; (first | refine h_exec rfl ?_ | refine h_alt ?_ ?_ | apply h_take)) | (refine kBack ?_; (first | refine h_back_last rfl ?_ | refine h_backN rfl subA ?_)) | refine l_then ?_ | (refine kC ?_; (first | (refine kReg 7 ?_; refine c_regionSN (SPlan.take 0 (SPlan.take 2 (SPlan.take 3 (SPlan.take 4 (SPlan.take 5 (SPlan.take 6 ((SPlan.run 1 ((SPlan.run 7 (SPlan.run 8 (SPlan.run 9 SPlan.done))).alt (SPlan.run 8 (SPlan.run 7 (SPlan.run 9 SPlan.done))))).alt (SPlan.run 8 (SPlan.run 1 (SPlan.run 7 (SPlan.run 9 SPlan.done))))))))))) (some 9) rfl rfl (by decide +kernel) ?_) | (refine kReg 7 ?_; refine c_regionSN (SPlan.take 0 (SPlan.take 2 (SPlan.take 3 (SPlan.take 4 (SPlan.take 5 (SPlan.take 6 ((SPlan.run 1 ((SPlan.run 7 (SPlan.run 8 (SPlan.run 9 SPlan.done))).alt (SPlan.run 8 (SPlan.run 7 (SPlan.run 9 SPlan.done))))).alt (SPlan.run 8 (SPlan.run 1 (SPlan.run 7 (SPlan.run 9 SPlan.done))))))))))) none rfl rfl (by decide +kernel) ?_) | (refine c_loopV (ι := Nat) (fun j => j ≤ s.ss.length) (fun j => [(3, .int .i64 (costTo s j)), (18, .int .i64 (j : Int))]) (fun j => [_]) (fun j => s.ss.length - j) 0 (by omega) rfl (fun _ => rfl) ⟨rfl, rfl, trivial⟩ (fun w hw => hw) (fun j hj => ?_)) | refine c_seq ?_ | refine c_regionN rfl ?_ | refine c_ret ?_ | (refine kCond ?_; (((first | refine c_cond_d rfl (fun h => ?_) (fun h => ?_) | refine c_cond_n rfl (fun h => ?_) (fun h => ?_)) <;> (try (first | contradiction | (exfalso; omega)))))) | refine c_block ?_ | refine c_skip ?_ | refine c_exit ?_)) | (refine kE ?_; (first | refine e_then_r ?_ | refine e_then_n ?_ | refine e_then_x ?_ | refine e_block_n ?_ | refine e_block_x ?_)) | refine l_ends ?_)
    any_goals (exact e_round (j + 1) (by omega) ⟨slook_to rfl (vint_to (by rw [Int.toNat_natCast]; rfl)), rfl, (by repeat' first | exact trivial | refine ⟨rfl, ?_⟩)⟩ (fun w hw => hw.sub (by repeat' first | exact List.nil_sublist _ | exact List.Sublist.slnil | refine List.Sublist.cons_cons _ ?_ | refine List.Sublist.cons _ ?_)) (by omega))
    any_goals (refine s_leave1 rfl rfl (fun w hw => ⟨ret_int ?_, hw.below⟩); obtain rfl : j = s.ss.length := (by omega); unfold paintCost; rw [if_pos hok])
  · (first | apply SYields.mk | apply SYieldsF.mk | skip); refine s_enter Try.func50 rfl Try.ntmps50 rfl ?_
    repeat' (first | exact rfl | (apply kO; (first | exact ov_pure rfl | (apply kOBin; (first | exact aBin)) | (apply kOCall; (first | (apply kCallF; (first | exact (ov_call rfl (fun w hw => c_isceneOk _ _ w (hve.keep (hw.cells rfl)))))) | (apply kCallB; (exact aLenR)))) | (apply kOLoad; (first | exact aLdF | exact aLdR)) | exact ov_fieldAddr rfl | (apply kOIdx; (first | exact aIdx)) | exact aNew)) | (refine kN ?_; (first | (refine kStore ?_; (first | refine s_storeS _ rfl rfl gpA rfl rfl (by rfl) ?_ | refine s_storeS _ rfl rfl gpA rfl (ones_img oiA) (by rfl) ?_)) | refine s_boxS rfl rfl (fun b hb => ?_) | refine s_allocS rfl (fun b hb => ?_) | apply s_step)) | refine l_then ?_ | (refine kC ?_; (first | refine c_seq ?_ | refine c_regionN rfl ?_ | refine c_ret ?_ | (refine kCond ?_; (((first | refine c_cond_d rfl (fun h => ?_) (fun h => ?_) | refine c_cond_n rfl (fun h => ?_) (fun h => ?_)) <;> (try (first | contradiction | (exfalso; omega)))))) | refine c_block ?_ | refine c_skip ?_ | refine c_exit ?_)) | (refine kE ?_; (first | refine e_then_r ?_ | refine e_then_n ?_ | refine e_then_x ?_ | refine e_block_n ?_ | refine e_block_x ?_)) | refine l_ends ?_)
    all_goals exact s_leave1 rfl rfl (fun w hw => ⟨ret_int (by unfold paintCost; rw [if_neg hok]), hw.below⟩)
end Go.Proofs.Ytpcammhmgleonaa
namespace Go.Proofs.Ytpcammhmgleonaa
open Go Sx
attribute [local irreducible] Exit.then Exit.inBlock bodyPost OVs OInts canonR rowR points Sx.canon oriented scaled pictureOf rawPicture
theorem coverL_yes {s : DScene} {n j : Nat} (h : isOpaqueS (s.ss.getD (n + j) default)) : coverL s n (j + 1) = coverL s n j ++ [(surfRect (s.ss.getD (n + j) default)).inter (scrR s)] := by
  show coverL s n j ++ _ = _
  rw [if_pos h]
theorem coverL_no {s : DScene} {n j : Nat} (h : ¬ isOpaqueS (s.ss.getD (n + j) default)) : coverL s n (j + 1) = coverL s n j := by
  show coverL s n j ++ _ = _
  rw [if_neg h, List.append_nil]
set_option maxHeartbeats 4000000 in
theorem c_scoverOf (s : DScene) (v : Value) (k : Int) (W : World) (hv : RS eSurf W v s.ss) : SYieldsF Try.prog 52 #[vScene s v, .int .i64 k] (fun u H => OReg u (coverOf s k) H) W := by
  have hlr := (hv.choose_spec).row.len
  have hve := hv
  obtain ⟨ds, hv⟩ := hv
  have hvf := hv.form
  obtain ⟨va, vc, rfl⟩ := hvf
  by_cases hok : s.ok ∧ (-1 ≤ k ∧ k ≤ (s.ss.length : Int) - 1)
  · have hlen := hok.1.2.2.2.1
    have hj0 : coverOf s k = canon (coverG s (k + 1).toNat) := by unfold coverOf; rw [if_pos hok]
    have hcl := coverL_length s (k + 1).toNat
    have hkj := fun (j : Nat) => (show (k + 1 + (j : Int)).toNat = (k + 1).toNat + j by omega)
    rw [hj0]
    (first | apply SYields.mk | apply SYieldsF.mk | skip); refine s_enter Try.func52 rfl Try.ntmps52 rfl ?_
    repeat' (first | exact rfl | (apply kO; (first | exact ov_pure rfl | (apply kOBin; (first | exact aBin)) | (apply kOCall; (first | (apply kCallF; (first | exact (ov_call rfl (fun w hw => c_ssceneOk _ _ w (hve.keep (hw.cells rfl)))) | exact (ov_call rfl (fun w hw => c_l01In _ _ _ w)) | exact (ov_call rfl (fun w hw => c_ssurfaceRect (s.ss.getD (k + 1 + (j.1 : Int)).toNat default) (ds (k + 1 + (j.1 : Int)).toNat) w (RInts.keep (hv.rd _ (by omega)) (hw.cells rfl)))) | exact (ov_call rfl (fun w hw => c_sisOpaque (s.ss.getD (k + 1 + (j.1 : Int)).toNat default) (ds (k + 1 + (j.1 : Int)).toNat) w (RInts.keep (hv.rd _ (by omega)) (hw.cells rfl)))) | exact (ov_call rfl (fun w hw => c_sintersect (surfRect (s.ss.getD (k + 1 + (j.1 : Int)).toNat default)) (scrR s) w)))) | (apply kCallB; (exact aBlt)))) | (apply kOLoad; (first | exact aLdF | exact aLdR)) | exact ov_fieldAddr rfl | (apply kOIdx; (first | exact aIdx)) | exact aNew)) | (refine kN ?_; (first | (refine kCall ?_; (first | (refine kWApp ?_; (refine s_appendVs _ _ (c := cRect) (kk := 4) (a := (surfRect (s.ss.getD (k + 1 + (j.1 : Int)).toNat default)).inter (scrR s)) rfl rfl (by assumption) gpA gpA rfl rfl (by rw [scells_eq]; rfl) (by decide) (by have := hcl j.1; omega) (by decide) rfl (fun v' H' hv' => ?_); have f1 := hv'.form; obtain ⟨ua, uc, rfl⟩ := f1)) | (refine kWFn 112 ?_; (refine s_callF (fun u H => OReg u (canon (points (coverL s (k + 1).toNat j.1))) H) rfl (fun w hw => c_sregionOf _ (coverL s (k + 1).toNat j.1) w (ORects.rd (by assumption) (hfA hw))) rfl (fun u H hu => ?_); obtain ⟨d', rfl, hu⟩ := hu)) | apply s_step)) | (refine kStore ?_; (first | (refine s_storeS _ rfl rfl gpA rfl (ones_cons (OVs.one (by assumption)) rfl) (by rfl) ?_) | refine s_storeS _ rfl rfl gpA rfl rfl (by rfl) ?_ | refine s_storeS _ rfl rfl gpA rfl (ones_img oiA) (by rfl) ?_)) | refine s_boxS rfl rfl (fun b hb => ?_) | refine s_allocS rfl (fun b hb => ?_) | refine s_buildSlice0 rfl (fun b hb => ?_) | refine s_buildSlice rfl rfl rfl rfl rfl (fun b hb => ?_) | apply s_step)) | (refine kG ?_; (first | refine s_gyes rfl rfl rfl ?_ | refine s_gno rfl rfl rfl rfl rfl ?_ | ((refine s_split_n rfl rfl (fun h => ?_) (fun h => ?_)) <;> (try (first | contradiction | (exfalso; omega) | (exfalso; exact absurd hok.1 (by assumption)) | (exfalso; exact absurd hok.2 (by assumption))))))) | (refine kS ?_; (first | refine h_exec rfl ?_ | refine h_nil ?_ | apply h_take)) | (refine kBack ?_; (refine h_backN rfl subA ?_)) | refine l_then ?_ | (refine kC ?_; (first | (refine kReg 8 ?_; refine c_regionSubN (SPlan.take 0 (SPlan.take 1 (SPlan.take 2 (SPlan.take 3 (SPlan.take 4 (SPlan.take 5 (SPlan.take 7 (SPlan.take 8 (SPlan.take 9 (SPlan.take 10 (SPlan.take 11 (SPlan.run 6 (SPlan.run 12 (SPlan.run 13 (SPlan.run 14 (SPlan.take 15 SPlan.done)))))))))))))))) none [false, true, true] rfl rfl rfl (by decide +kernel) ?_) | (refine c_loopV (ι := Nat × Value × SPiece) (fun j => j.1 ≤ s.ss.length - (k + 1).toNat ∧ ORects j.2.1 (coverL s (k + 1).toNat j.1) j.2.2) (fun j => [(5, j.2.1), (6, .int .i64 (k + 1 + (j.1 : Int)))]) (fun j => [j.2.2, _, _]) (fun j => s.ss.length - (k + 1).toNat - j.1) (0, _, _) ⟨by dsimp only; omega, OVs.empty _⟩ rfl (fun _ => rfl) ⟨rfl, slook_to rfl (vint_to (by dsimp only; omega)), trivial⟩ (fun w hw => hw) (fun j hj => ?_); obtain ⟨hj1, hj2⟩ := hj) | refine c_seq ?_ | refine c_regionN rfl ?_ | refine c_ret ?_ | (refine kCond ?_; (first | refine c_cond_t rfl ?_ | ((first | refine c_cond_d rfl (fun h => ?_) (fun h => ?_) | refine c_cond_n rfl (fun h => ?_) (fun h => ?_)) <;> (try (first | contradiction | (exfalso; omega) | (exfalso; exact absurd hok.1 (by assumption)) | (exfalso; exact absurd hok.2 (by assumption))))))) | refine c_block ?_ | refine c_skip ?_ | refine c_exit ?_)) | (refine kE ?_; (first | refine e_then_r ?_ | refine e_then_n ?_ | refine e_then_x ?_ | refine e_block_n ?_ | refine e_block_x ?_)) | refine l_ends ?_)
    all_goals first
      | (have e0 : coverL s (k + 1).toNat (j.1 + 1) = coverL s (k + 1).toNat j.1 ++ [(surfRect (s.ss.getD (k + 1 + (j.1 : Int)).toNat default)).inter (scrR s)] := by rw [hkj j.1]; exact coverL_yes (by rw [← hkj j.1]; assumption)
         exact e_round (j.1 + 1, _, H') ⟨by dsimp only; omega, by dsimp only; rw [e0]; exact hv'⟩ ⟨rfl, slook_to rfl (vint_to (by dsimp only; push_cast; omega)), (by repeat' first | exact trivial | refine ⟨rfl, ?_⟩)⟩ (fun w hw => hw.sub (selO_sub [false, true, true, true] _ _ rfl)) (by dsimp only; omega))
      | (have e0 : coverL s (k + 1).toNat (j.1 + 1) = coverL s (k + 1).toNat j.1 := coverL_no (by rw [← hkj j.1]; assumption)
         exact e_round (j.1 + 1, j.2.1, j.2.2) ⟨by dsimp only; omega, by dsimp only; rw [e0]; exact hj2⟩ ⟨rfl, slook_to rfl (vint_to (by dsimp only; push_cast; omega)), (by repeat' first | exact trivial | refine ⟨rfl, ?_⟩)⟩ (fun w hw => hw) (by dsimp only; omega))
      | (rw [show j.1 = s.ss.length - (k + 1).toNat by omega, coverL_all hok.1 (k + 1).toNat (by omega)] at hu
         exact s_leaveSF rfl rfl rfl fwA (fun w hw => ⟨_, _, rfl, ⟨_, rfl, hu⟩, hw.toFresh (H := H) gpA⟩))
  · have hj0 : coverOf s k = [] := by unfold coverOf; rw [if_neg hok]
    rw [hj0]
    (first | apply SYields.mk | apply SYieldsF.mk | skip); refine s_enter Try.func52 rfl Try.ntmps52 rfl ?_
    repeat' (first | exact rfl | (apply kO; (first | exact ov_pure rfl | (apply kOBin; (first | exact aBin)) | (apply kOCall; (first | (apply kCallF; (first | exact (ov_call rfl (fun w hw => c_ssceneOk _ _ w (hve.keep (hw.cells rfl)))) | exact (ov_call rfl (fun w hw => c_l01In _ _ _ w)))) | (apply kCallB; (exact aBlt)))) | (apply kOLoad; (first | exact aLdF | exact aLdR)) | exact ov_fieldAddr rfl | (apply kOIdx; (first | exact aIdx)) | exact aNew)) | (refine kN ?_; (first | (refine kStore ?_; (first | refine s_storeS _ rfl rfl gpA rfl rfl (by rfl) ?_ | refine s_storeS _ rfl rfl gpA rfl (ones_img oiA) (by rfl) ?_)) | refine s_boxS rfl rfl (fun b hb => ?_) | refine s_allocS rfl (fun b hb => ?_) | refine s_buildSlice0 rfl (fun b hb => ?_) | refine s_buildSlice rfl rfl rfl rfl rfl (fun b hb => ?_) | apply s_step)) | (refine kG ?_; (first | refine s_gyes rfl rfl rfl ?_ | refine s_gno rfl rfl rfl rfl rfl ?_ | ((refine s_split_n rfl rfl (fun h => ?_) (fun h => ?_)) <;> (try (first | contradiction | (exfalso; omega) | (exfalso; exact absurd ⟨by assumption, by assumption⟩ hok)))))) | refine l_then ?_ | (refine kC ?_; (first | refine c_seq ?_ | refine c_regionN rfl ?_ | refine c_ret ?_ | (refine kCond ?_; (first | refine c_cond_t rfl ?_ | ((first | refine c_cond_d rfl (fun h => ?_) (fun h => ?_) | refine c_cond_n rfl (fun h => ?_) (fun h => ?_)) <;> (try (first | contradiction | (exfalso; omega) | (exfalso; exact absurd ⟨by assumption, by assumption⟩ hok)))))) | refine c_block ?_ | refine c_skip ?_ | refine c_exit ?_)) | (refine kE ?_; (first | refine e_then_r ?_ | refine e_then_n ?_ | refine e_then_x ?_ | refine e_block_n ?_ | refine e_block_x ?_)) | refine l_ends ?_)
    all_goals (refine kE ?_; refine s_leaveSF rfl rfl rfl fwA (fun w hw => ?_))
    all_goals exact ⟨_, [], rfl, ⟨_, rfl, OVs.nil⟩, hw.toFresh0⟩
end Go.Proofs.Ytpcammhmgleonaa
namespace Go.Proofs.Ytpcammhmgleonaa
open Go Sx
attribute [local irreducible] Exit.then Exit.inBlock bodyPost OVs OInts canonR rowR points Sx.canon oriented scaled pictureOf rawPicture dlA dlB dlC dlO dlT dlU surfaceIndex mapFR
end Go.Proofs.Ytpcammhmgleonaa
namespace Go.Proofs.Ytpcammhmgleonaa
open Go Sx
attribute [local irreducible] Exit.then Exit.inBlock bodyPost OVs OInts OElems Sx.doEdits Sx.editCount Sx.damageOf
theorem c_ieditDamage (s : DScene) (l : List DEdit) (v vl : Value) (W : World) (hv : RS eSurf W v s.ss) (hvl : RS eEdit W vl l) (hl : surfsLen s.ss ≤ 2000000) (hel : editsLen l ≤ 1048576) : SYieldsF Try.prog 19 #[vScene s v, vl] (fun u H => OReg u (Sx.damageOf s (Sx.doEdits s l)) H) W := by
  have hvf := hv.form
  obtain ⟨va, vc, rfl⟩ := hvf
  (first | apply SYields.mk | apply SYieldsF.mk | skip); refine s_enter Try.func19 rfl Try.ntmps19 rfl ?_
  repeat' (first | exact rfl | (apply kO; (first | exact ov_pure rfl | (apply kOLoad; (exact aLdF)))) | (refine kN ?_; (first | (refine kCall ?_; (first | (refine kWFn 32 ?_; (refine s_callF (fun u H => OSceneN u (Sx.doEdits s l) (Sx.editCount s l) H) rfl (fun w hw => c_idoEdits s l _ _ w (hv.keep (hw.cells rfl)) (hvl.keep (hw.cells rfl)) hl hel) rfl (fun u H hu => ?_); obtain ⟨v6, rfl, hu⟩ := hu; have f1 := hu.form; obtain ⟨_, _, rfl⟩ := f1)) | (refine kWFn 13 ?_; (refine s_callF (fun u H => OReg u (Sx.damageOf s (Sx.doEdits s l)) H) rfl (fun w hw => c_idamageOf s (Sx.doEdits s l) _ _ w (hv.keep (hw.cells rfl)) (OElems.rs hu (hfA hw))) rfl (fun u H9 hu9 => ?_); obtain ⟨d9, rfl, hu9⟩ := hu9)) | apply s_step)) | (refine kStore ?_; (first | (refine s_storeS _ rfl rfl gpA rfl (ones_cons rfl (ones_cons rfl (ones_cons rfl (ones_cons (OElems.one (by assumption)) rfl)))) (by rfl) ?_) | (refine s_storeS _ rfl rfl gpA rfl (ones_cons (OVs.one (by assumption)) rfl) (by rfl) ?_) | refine s_storeS _ rfl rfl gpA rfl rfl (by rfl) ?_ | refine s_storeS _ rfl rfl gpA rfl (ones_img oiA) (by rfl) ?_)) | refine s_boxS rfl rfl (fun b hb => ?_) | refine s_allocS rfl (fun b hb => ?_) | apply s_step)) | refine l_then ?_ | (refine kC ?_; (first | refine c_seq ?_ | refine c_regionN rfl ?_ | refine c_ret ?_)) | (refine kE ?_; (first | refine e_block_y rfl ?_)))
  all_goals (refine kE ?_; refine s_leaveSF rfl rfl rfl fwA (fun w hw => ?_))
  all_goals exact ⟨_, _, rfl, ⟨_, rfl, hu9⟩, hw.toFresh (H := H9) gpA⟩
end Go.Proofs.Ytpcammhmgleonaa
namespace Go.Proofs.Ytpcammhmgleonaa
open Go Sx
attribute [local irreducible] Exit.then Exit.inBlock bodyPost OInts OElems
theorem _root_.Sx.OElems.relems {α : Type} {e : SElem α} {U : TypeId} {v : Value} {l : List α} {H : SPiece} (h : OElems e U v l H) : ∃ ds, (∀ w, Holds w H → RElems e w v l ds) ∧ ∀ i, i < l.length → ∃ Hi, e.own (ds i) (l.getD i e.dflt) Hi := by
  unfold OElems at h
  obtain ⟨ds, H0, Hs, G, h1, h2, rfl⟩ := h
  exact ⟨ds, fun w hw => ⟨h1.reads hw.left (Nat.le_trans h1.le (by decide)) (fun i hi => e.klen _ _) rfl, fun i hi => e.reads (h2 i hi) (ecat_sub hw.right.left hi)⟩, fun i hi => ⟨_, h2 i hi⟩⟩
theorem c_repair (a t : DScene) (di v vr : Value) (W : World) (ha : a.ok) (ht : t.ok) (hz : sameSize a t) (hi : RInts W di (painted a).data) (hv : RS eSurf W v t.ss) (hr : RRects W vr (damageOf a t)) :
    SYieldsF Try.prog 48 #[vImg (painted a) di, vScene t v, vReg vr] (fun u H => OImg u (painted t) H) W := by
  have h9 := c_ipaintInto (painted a) t (damageOf a t) di v vr W hi hv hr (by have := img_len (painted_ok ha); omega)
  rw [repaired ha ht hz] at h9
  exact h9
theorem c_visOk (s : DScene) (v : Value) (W : World) (hs : s.ok) (hv : RS eSurf W v s.ss) : SYieldsF Try.prog 49 #[vScene s v] (fun u H => OImgN u (painted s) (visibleCost s) H) W := by
  have h9 := c_ipaintVisible s v W hv
  rw [paintVisible_eq hs] at h9
  exact h9
theorem c_dmgSelf (s : DScene) (v : Value) (W : World) (hs : s.ok) (hv : RS eSurf W v s.ss) : SYieldsF Try.prog 13 #[vScene s v, vScene s v] (fun u H => OReg u [] H) W := by
  have h9 := c_idamageOf s s v v W hv hv
  rw [damage_self hs] at h9
  exact h9
theorem c_edDmg (s t : DScene) (l : List DEdit) (v vl : Value) (W : World) (hs : s.ok) (ht : t = doEdits s l) (hv : RS eSurf W v s.ss) (hvl : RS eEdit W vl l) (hel : editsLen l ≤ 5000) : SYieldsF Try.prog 19 #[vScene s v, vl] (fun u H => OReg u (damageOf s t) H) W := by
  rw [ht]
  exact c_ieditDamage s l v vl W hv hvl (scene_len hs) (by omega)
end Go.Proofs.Ytpcammhmgleonaa
namespace Sx
def movedS (t : DScene) (k : Nat) : DScene := { t with ss := t.ss.set k (moved (t.ss.getD k default) 5 (-5)) }
end Sx
namespace Go.Proofs.Ytpcammhmgleonaa
open Go Sx
attribute [local irreducible] Exit.then Exit.inBlock bodyPost OInts OElems
theorem c_ieditsSome (s : DScene) (l : List DEdit) (v vl : Value) (W : World) (hs : s.ok) (hv : RS eSurf W v s.ss) (hvl : RS eEdit W vl l) (hel : editsLen l ≤ 5000) :
    SYieldsF Try.prog 32 #[vScene s v, vl] (fun u H => ∃ (t : DScene) (vt : Value), u = .tuple #[vScene t vt, .int .i64 (editCount s l : Int)] ∧ t.ok ∧ (s.W = t.W ∧ s.H = t.H) ∧ OElems eSurf 62 vt t.ss H) W :=
  (c_idoEdits s l v vl W hv hvl (scene_len hs) (by omega)).imp fun u H h => by
    obtain ⟨vt, rfl, h⟩ := h
    have hz := doEdits_size s l
    exact ⟨_, _, rfl, doEdits_ok l hs, ⟨hz.1.symm, hz.2.symm⟩, h⟩
theorem c_moveOn (t : DScene) (k : Nat) (v : Value) (W : World) (ht : t.ok) (hk : k < t.ss.length) (hv : RS eSurf W v t.ss) :
    SYieldsF Try.prog 35 #[vScene t v, vEdit (moveE (t.ss.getD k default).Id 5 (-5)) (.slice none 0 0)] (fun u H => OSceneB u (movedS t k) true H) W := by
  have h := move_edit ht hk (a := 5) (b := -5) (by omega) (by omega)
  have h9 := c_idoEdit t (moveE (t.ss.getD k default).Id 5 (-5)) v (.slice none 0 0) W hv (rints_nil W) (scene_len ht) (Nat.zero_le _)
  rw [h.2, decide_eq_true h.1] at h9
  exact h9
theorem moved_index {t : DScene} {k : Nat} (ht : t.ok) (hk : k < t.ss.length) : surfaceIndex (movedS t k).ss (t.ss.getD k default).Id = surfaceIndex t.ss (t.ss.getD k default).Id := (move_back ht hk (u := movedS t k) rfl).2.2.2
theorem c_moveBack (t : DScene) (k : Nat) (v : Value) (W : World) (ht : t.ok) (hk : k < t.ss.length) (hv : RS eSurf W v (movedS t k).ss) :
    SYieldsF Try.prog 35 #[vScene (movedS t k) v, vEdit (moveE (t.ss.getD k default).Id (t.ss.getD k default).X (t.ss.getD k default).Y) (.slice none 0 0)] (fun u H => OSceneB u t true H) W := by
  have h := move_back ht hk (u := movedS t k) rfl
  have h9 := c_idoEdit (movedS t k) (moveE (t.ss.getD k default).Id (t.ss.getD k default).X (t.ss.getD k default).Y) v (.slice none 0 0) W hv (rints_nil W) (scene_len h.1) (Nat.zero_le _)
  rw [h.2.2.1, decide_eq_true h.2.1] at h9
  exact h9
theorem RS_cut {α : Type} {e : SElem α} {w : World} {a : Option Addr} {n c : Nat} {l : List α} (h : RS e w (.slice a n c) l) {q : Nat} (hn : n = l.length) (hq : q ≤ l.length) : RS e w (.slice a q c) (l.take q) := by
  subst hn
  obtain ⟨ds, h⟩ := h
  have hg : ∀ i, i < q → (l.take q).getD i e.dflt = l.getD i e.dflt := fun i hi => by
    rw [List.getD_eq_getElem?_getD, List.getElem?_take, if_pos hi, List.getD_eq_getElem?_getD]
  refine ⟨ds, ⟨(rrow_hi h.row hq).congr (by rw [List.length_take]; omega) (fun i hi => by rw [hg i hi]), fun i hi => ?_⟩⟩
  rw [List.length_take] at hi
  rw [hg i (by omega)]
  exact h.rd i (by omega)
theorem hidden_len (s : DScene) (k : Nat) {T : List (ETri DSurf)} (h : T.map (·.1) = keptTo s (keepV s) k) : T.length ≤ k := by
  have h1 := keptTo_len s (keepV s) k
  rw [← h, List.length_map] at h1
  exact h1
theorem kept_yes {s : DScene} {k : Nat} {T T0 : List (ETri DSurf)} (h : T.map (·.1) = keptTo s (keepV s) k) (h0 : T0.map (·.1) = s.ss) (hv : 0 < areaOf (visibleOf s (k : Int))) : (T ++ [T0.getD k dT]).map (·.1) = keptTo s (keepV s) (k + 1) := by
  have e : (T0.getD k dT).1 = s.ss.getD k default := by rw [getT_fst, h0]
  have hk : keepV s k = true := decide_eq_true hv
  rw [List.map_append, h]
  conv => rhs; unfold keptTo
  rw [if_pos hk]
  show _ ++ [(T0.getD k dT).1] = _
  rw [e]
theorem kept_no {s : DScene} {k : Nat} {T : List (ETri DSurf)} (h : T.map (·.1) = keptTo s (keepV s) k) (hv : ¬ 0 < areaOf (visibleOf s (k : Int))) : T.map (·.1) = keptTo s (keepV s) (k + 1) := by
  have hk : ¬ keepV s k = true := fun hh => hv (of_decide_eq_true hh)
  rw [h]
  conv => rhs; unfold keptTo
  rw [if_neg hk, List.append_nil]
theorem layer_at {s : DScene} (hs : s.ok) (h0 : 0 < s.ss.length) {j : Nat} (hj : j < (s.W * s.H).toNat) :
    (painted s).data.getD j 0 = if (surfRect (s.ss.getD (s.ss.length - 1) default)).has ((j : Int) % s.W) ((j : Int) / s.W) then over ((pictureOf (s.ss.getD (s.ss.length - 1) default)).at ((j : Int) % s.W - (s.ss.getD (s.ss.length - 1) default).X) ((j : Int) / s.W - (s.ss.getD (s.ss.length - 1) default).Y)) ((painted (restS s)).data.getD j 0) else (painted (restS s)).data.getD j 0 := by
  have e1 : (painted s).data.getD j 0 = paintF s ((j : Int) % s.W) ((j : Int) / s.W) := mapTo_get (paintF s) s.W hj
  have e2 : (painted (restS s)).data.getD j 0 = paintF (restS s) ((j : Int) % s.W) ((j : Int) / s.W) := mapTo_get (paintF (restS s)) s.W hj
  rw [e1, e2, paintF_last h0]; rfl
theorem paint_place {s : DScene} (hs : s.ok) {j : Nat} (hj : j < (s.W * s.H).toNat) : paintAt s ((j : Int) % s.W) ((j : Int) / s.W) = (painted s).data.getD j 0 := by
  have e1 : (painted s).data.getD j 0 = paintF s ((j : Int) % s.W) ((j : Int) / s.W) := mapTo_get (paintF s) s.W hj
  have h1 := mod_row (w := s.W) (q := j) hs.1.1
  have h2 := div_lt (w := s.W) (h := s.H) (q := j) hs.1.1 hj
  unfold paintAt
  rw [if_pos ⟨hs, by omega, by omega⟩, e1]
theorem paint_bare {s : DScene} (hs : s.ok) (h0 : s.ss.length = 0) : paintAt s 0 0 = s.Back := by
  have h1 := hs.1
  have h2 := hs.2.1
  unfold paintAt
  rw [if_pos ⟨hs, by omega, by omega⟩, paintF_empty h0]
theorem _root_.Sx.OElems.roomW {α : Type} {e : SElem α} {U : TypeId} {ad : Option Addr} {n c : Nat} {l : List α} {H : SPiece} (h : OElems e U (.slice ad n c) l H) : n ≤ c := by
  unfold OElems at h
  obtain ⟨ds, H0, Hs, G, h1, h2, rfl⟩ := h
  rcases OVec.inv h1 with ⟨e1, hn, _⟩ | ⟨b, cap, r, e1, _, _, hnc, _⟩
  · cases e1; exact Nat.le_refl _
  · cases e1; exact hnc
theorem layer_yes {s : DScene} (hs : s.ok) (h0 : 0 < s.ss.length) {j k : Nat} (hk : k = s.ss.length - 1) (hj : j < (s.W * s.H).toNat) (hh : (surfRect (s.ss.getD k default)).has ((j : Int) % s.W) ((j : Int) / s.W)) :
    (painted s).data.getD j 0 = over ((pictureOf (s.ss.getD k default)).at ((j : Int) % s.W - (surfRect (s.ss.getD k default)).X) ((j : Int) / s.W - (surfRect (s.ss.getD k default)).Y)) ((painted (restS s)).data.getD j 0) := by
  have h8 := has_place hh
  rw [layer_at hs h0 hj, ← hk, if_pos hh, h8.1, h8.2.1]
theorem layer_no {s : DScene} (hs : s.ok) (h0 : 0 < s.ss.length) {j k : Nat} (hk : k = s.ss.length - 1) (hj : j < (s.W * s.H).toNat) (hh : ¬ (surfRect (s.ss.getD k default)).has ((j : Int) % s.W) ((j : Int) / s.W)) :
    (painted s).data.getD j 0 = (painted (restS s)).data.getD j 0 := by
  rw [layer_at hs h0 hj, ← hk, if_neg hh]
theorem has_bd {q : DSurf} {x y : Int} (h : (surfRect q).has x y) : (0 ≤ x - (surfRect q).X ∧ x - (surfRect q).X < (pictureOf q).W) ∧ (0 ≤ y - (surfRect q).Y ∧ y - (surfRect q).Y < (pictureOf q).H) := by
  have h8 := has_place h
  rw [h8.1, h8.2.1]
  exact ⟨h8.2.2.2.1, h8.2.2.2.2⟩
theorem rest_ok {s : DScene} (hs : s.ok) : (restS s).ok := take_ok hs _
end Go.Proofs.Ytpcammhmgleonaa
