/-
  The program's EditDamage returns what the reference's returns, for all arguments. No condition.
-/
import Derived.Test.YtiainpcigdenaaaHead
import Derived.Test.YtiainpcigdenaaaEdB4
set_option linter.unusedVariables false
namespace Go.Proofs.Ytiainpcigdenaaa.editDamage
open Go Sx Go.ChangeShapes Go.WideShapes Go.ChangeAt Go.RowKit
attribute [local irreducible] Exit.then Exit.inBlock bodyPost OVs OInts OElems Sx.doEdits Sx.editCount Sx.damageOf Sx.canon points szI
set_option maxRecDepth 100000 in
set_option maxHeartbeats 4000000 in
theorem walk : LawWalk Try.prog 5 Try.f5 := by
  intro W base args hs hv
  obtain ⟨v0, e0⟩ := arg_at hs (j := 0) (t := 24) rfl
  obtain ⟨v1, e1⟩ := arg_at hs (j := 1) (t := 47) rfl
  have hargs := args2 (by simpa using hs) e0 e1
  obtain ⟨cs0, ha0, r0⟩ := okv_struct (hv 0 24 v0 rfl e0)
  have r1 := okv_slice (hv 1 47 v1 rfl e1)
  subst hargs
  clear hv hs e0 e1
  subst ha0
  obtain ⟨s0, d0, ee0, rr0⟩ := open_scene r0
  clear r0; subst ee0; have hl0 := rr0.len
  obtain ⟨s1, rr1⟩ := open_edits r1
  have p0 := rr0.form
  obtain ⟨va, vc, rfl⟩ := p0
  have p1 := rr1.form
  obtain ⟨la, lc, rfl⟩ := p1
  have z0 := szI_or (surfsLen s0.ss) 1048576
  have z1 := szI_or (editsLen s1) (szI (surfsLen s0.ss) 1048576)
  have hsl : s0.ss.length ≤ surfsLen s0.ss := Nat.le_add_right _ _
  have hel : s1.length ≤ editsLen s1 := Nat.le_add_right _ _
  have hbd := (Sx.damageOf_ok s0 (Sx.doEdits s0 s1)).length
  (first | apply SYields.mk | apply SYieldsF.mk | skip); refine s_enter Try.func5 rfl Try.ntmps5 rfl ?_
  repeat' (first | exact rfl | (apply kO; (first | exact ov_pure rfl | (apply kOBin; (first | exact aBin)) | (apply kOCall; (first | (apply kCallF; (first | exact (ov_call rfl (fun w hw => c_szScene _ _ _ w (reA hw) (by omega))) | exact (ov_call rfl (fun w hw => c_szEditS _ _ _ w (reA hw) (by omega))) | exact (ov_call rfl (fun w hw => c_eqScene _ _ _ _ w (reA hw) (reA hw))) | exact (ov_call rfl (fun w hw => c_eqEditS _ _ _ _ w (reA hw) (reA hw))) | exact (ov_call rfl (fun w hw => c_eqRegion _ _ _ _ w (ORects.rd (by assumption) (hfA hw)) (ORects.rd (by assumption) (hfA hw)))) | exact (ov_call rfl (fun w hw => c_heldRegion _ _ _ w (ORects.rd (by assumption) (hfA hw)) (by omega))))) | (apply kCallB; (first | exact aBlt | exact aLenR)))) | (apply kOLoad; (first | exact aLdF | exact aLdR)) | exact ov_fieldAddr rfl | (apply kOIdx; (first | exact aIdx)) | exact aRest | exact aNew | exact (ov_field1 (ft := 25) rfl rfl rfl rfl))) | (refine kN ?_; (first | (refine kCall ?_; (first | (refine kWFunc ?_; (refine s_callF (fun u H => OScene u _ H) rfl (fun w hw => c_toScene _ _ w (reA hw) (by omega)) rfl (fun u H hu => ?_); obtain ⟨d', rfl, hu⟩ := hu; have f1 := hu.form; obtain ⟨_, _, rfl⟩ := f1)) | (refine kWFn 19 ?_; (refine s_callF (fun u H => OElems eEdit 40 u s1 H) rfl (fun w hw => c_toEditS _ s1 w (reA hw) (by omega)) rfl (fun u H hu => ?_); have f1 := hu.form; obtain ⟨_, _, rfl⟩ := f1)) | (refine kWFn 14 ?_; (refine s_markScene _ s0 rfl (by assumption) gpA (by omega) (by omega) rfl (fun H' F => ?_))) | (refine kWFn 22 ?_; (refine s_markEditS _ s1 rfl (by assumption) gpA (by omega) (by omega) rfl (fun H' F => ?_))) | (refine kWFn 23 ?_; (refine s_callF (fun u H => OReg u (Sx.damageOf s0 (Sx.doEdits s0 s1)) H) rfl (fun w hw => c_seditDamage s0 s1 _ _ w (reA hw) (reA hw) (by omega) (by omega)) rfl (fun u H hu => ?_); obtain ⟨d', rfl, hu⟩ := hu; have f1 := hu.form; obtain ⟨_, _, rfl⟩ := f1)) | (refine kWFn 24 ?_; (refine s_callF (fun u H => OReg u (Sx.damageOf s0 (Sx.doEdits s0 s1)) H) rfl (fun w hw => c_ieditDamage s0 s1 _ _ w (reA hw) (reA hw) (by omega) (by omega)) rfl (fun u H hu => ?_); obtain ⟨d', rfl, hu⟩ := hu; have f1 := hu.form; obtain ⟨_, _, rfl⟩ := f1)) | (refine kWFn 26 ?_; (refine s_markReg _ rfl (by assumption) gpA (by omega) rfl (fun H' hu => ?_))) | apply s_step)) | (refine kStore ?_; (first | refine s_store1 _ rfl rfl gpA rfl (by rfl) ?_ | refine s_storeS _ rfl rfl gpA rfl rfl (by rfl) ?_ | refine s_storeS _ rfl rfl gpA rfl (ones_img oiA) (by rfl) ?_)) | refine s_boxS rfl rfl (fun b hb => ?_) | refine s_allocS rfl (fun b hb => ?_) | refine s_box1 rfl rfl rfl (fun b hb => ?_) | refine s_alloc1 rfl rfl (fun b hb => ?_) | refine s_buildSlice0 rfl (fun b hb => ?_) | refine s_buildSlice rfl rfl rfl rfl rfl (fun b hb => ?_) | apply s_step)) | (refine kG ?_; (first | refine s_gyes rfl rfl rfl ?_ | refine s_gno rfl rfl rfl rfl rfl ?_ | ((first | refine s_split_d rfl rfl (fun h => ?_) (fun h => ?_) | refine s_split_n rfl rfl (fun h => ?_) (fun h => ?_)) <;> (try (first | contradiction | (exfalso; omega)))) | refine s_split_nb rfl rfl (fun h => ?_) (fun h => ?_) | refine s_split rfl rfl (fun h => ?_) (fun h => ?_))) | (refine kS ?_; (first | refine h_exec rfl ?_ | refine h_take_nil rfl rfl rfl ?_ | refine h_take_pick rfl rfl rfl ?_ | refine h_nil ?_ | refine h_alt ?_ ?_ | apply h_take)) | (refine kBack ?_; (first | refine h_back_last rfl ?_ | refine h_backN rfl subA ?_)) | refine l_then ?_ | (refine kC ?_; (first | (refine kReg 14 ?_; refine c_regionSN (SPlan.take 0 (SPlan.take 1 (SPlan.run 2 (SPlan.run 3 (SPlan.take 4 SPlan.done))))) none rfl rfl (by decide +kernel) ?_) | refine c_seq ?_ | refine c_regionN rfl ?_ | refine c_ret ?_ | (refine kCond ?_; (first | refine c_cond_t rfl ?_ | refine c_cond_f rfl ?_ | ((first | refine c_cond_d rfl (fun h => ?_) (fun h => ?_) | refine c_cond_n rfl (fun h => ?_) (fun h => ?_)) <;> (try (first | contradiction | (exfalso; omega)))) | refine c_cond_nb rfl (fun h => ?_) (fun h => ?_) | refine c_cond rfl (fun h => ?_) (fun h => ?_))) | refine c_block ?_ | refine c_skip ?_ | refine c_exit ?_ | refine c_regionQN rfl rfl (by decide +kernel) ?_)) | apply s_stepQ | (refine kQG ?_; (first | refine s_gyesQ rfl rfl rfl ?_ | refine s_gnoQ rfl rfl rfl rfl rfl ?_ | ((first | refine s_splitQ_d rfl rfl (fun h => ?_) (fun h => ?_) | refine s_splitQ_n rfl rfl (fun h => ?_) (fun h => ?_)) <;> (try (first | contradiction | (exfalso; omega)))) | refine s_splitQ_nb rfl rfl (fun h => ?_) (fun h => ?_) | refine s_splitQ rfl rfl (fun h => ?_) (fun h => ?_))) | refine lQ_then ?_ | refine lQ_ends ?_ | (refine kE ?_; (first | refine e_then_r ?_ | refine e_block_r ?_ | refine e_then_n ?_ | refine e_then_x ?_ | refine e_block_n ?_ | refine e_block_x ?_ | refine e_block_y rfl ?_)) | refine l_ends ?_)
  all_goals refine s_leave1 rfl rfl (fun w hw => ⟨?_, hw.below⟩)
  all_goals first | rfl | (exfalso; omega)
set_option maxRecDepth 100000 in
theorem lifted (os : Os) (started : os.Started) (H : Type) (enc : TypeId × Value → H) :
    ReturnsInHanded {} Try.checked os 5 .any (Rows.fnExactEditDamageSpec.pre6 enc Try.prog Try.f5 Rows.fnExactEditDamageRow.domain false) (Rows.fnExactEditDamageSpec.post enc Try.prog Try.f5 false true false false) :=
  lift (C := Try.checked) (P := Try.prog) rfl Hd.own started (by kernel_rfl) Try.func5
    (ChangeSpec.witness6 (enc := enc) (C := Try.checked) false ⟨#[], #[(.agg #[.int .i64 0, .int .i64 0, .int .i64 0, .slice none 0 0]), .slice none 0 0], []⟩ 8 (by kernel_rfl) (by kernel_rfl) (by kernel_rfl) (by kernel_rfl))
    Hd.laid (by kernel_rfl) rfl Try.underlying4 rfl (fun ds hd => by match ds, hd with | [d0, d1], _ => rfl) walk
theorem closed : joinedFacts Try.prog 5 Try.f5 Rows.fnExactEditDamageSpec Rows.fnExactEditDamageRow = true := by
  rw [joinedFacts, Hd.enter, Hd.lifts, Hd.make]; kernel_rfl
theorem over : Rows.fnExactEditDamageRow.holds Try.pinned (OpenSpec.ofChange Rows.fnExactEditDamageSpec) :=
  OpenClaim.holds_of_wide 5 Try.f5 rfl rfl rfl rfl rfl rfl rfl ⟨rfl, rfl, rfl, rfl, rfl⟩ rfl rfl rfl rfl rfl (by kernel_rfl) Try.func5 closed
    (of_decide_eq_true (by kernel_rfl)) (by unfold Func.isWrapper; first | (rw [if_pos (by decide +kernel)]; kernel_rfl) | (rw [if_neg (by decide +kernel)]; exact ⟨rfl, rfl⟩))
    (fun os started H enc _ => lifted os started H enc)
theorem proved : Rows.FnExactEditDamageSaid := over
end Go.Proofs.Ytiainpcigdenaaa.editDamage
