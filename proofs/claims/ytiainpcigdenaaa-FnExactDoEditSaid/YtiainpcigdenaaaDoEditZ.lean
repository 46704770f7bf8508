/-
  The program's DoEdit returns what the reference's returns, for all arguments. No condition.
-/
import Derived.Test.YtiainpcigdenaaaHead
import Derived.Test.YtiainpcigdenaaaEdB4
set_option linter.unusedVariables false
namespace Go.Proofs.Ytiainpcigdenaaa.doEdit
open Go Sx Go.ChangeShapes Go.WideShapes Go.ChangeAt Go.RowKit
attribute [local irreducible] Exit.then Exit.inBlock bodyPost OVs OInts OElems Sx.doEdit Sx.doEditOk szI markSurfs
set_option maxRecDepth 100000 in
set_option maxHeartbeats 4000000 in
theorem walk : LawWalk Try.prog 3 Try.f3 := by
  intro W base args hs hv
  obtain ⟨v0, e0⟩ := arg_at hs (j := 0) (t := 24) rfl
  obtain ⟨v1, e1⟩ := arg_at hs (j := 1) (t := 29) rfl
  have hargs := args2 (by simpa using hs) e0 e1
  obtain ⟨cs0, ha0, r0⟩ := okv_struct (hv 0 24 v0 rfl e0)
  obtain ⟨cs1, ha1, r1⟩ := okv_struct (hv 1 29 v1 rfl e1)
  subst hargs
  clear hv hs e0 e1
  subst ha0
  subst ha1
  obtain ⟨s0, d0, ee0, rr0⟩ := open_scene r0
  clear r0; subst ee0; have hl0 := rr0.len
  obtain ⟨s1, d1, ee1, rr1⟩ := open_edit r1
  clear r1; subst ee1; have hl1 := rr1.len
  have p0 := rr0.form
  obtain ⟨va, vc, rfl⟩ := p0
  have p1 := rr1.form
  obtain ⟨la, lc, rfl⟩ := p1
  have z0 := szI_or (surfsLen s0.ss) 1048576
  have z1 := szI_or s1.buf.data.length (szI (surfsLen s0.ss) 1048576)
  have hsl : s0.ss.length ≤ surfsLen s0.ss := Nat.le_add_right _ _
  have hdl := fun (hh : surfsLen s0.ss ≤ 1048576) => doEdit_len2 hh (by decide) s1
  have hdl2 : (Sx.doEdit s0 s1).ss.length ≤ surfsLen (Sx.doEdit s0 s1).ss := Nat.le_add_right _ _
  (first | apply SYields.mk | apply SYieldsF.mk | skip); refine s_enter Try.func3 rfl Try.ntmps3 rfl ?_
  repeat' (first | exact rfl | (apply kO; (first | exact ov_pure rfl | (apply kOBin; (first | exact aBin)) | (apply kOCall; (first | (apply kCallF; (first | exact (ov_call rfl (fun w hw => c_szScene _ _ _ w (reA hw) (by omega))) | exact (ov_call rfl (fun w hw => c_szEdit _ _ _ w (riA hw) (by omega))) | exact (ov_call rfl (fun w hw => c_eqScene _ _ _ _ w (reA hw) (reA hw))) | exact (ov_call rfl (fun w hw => c_eqEdit _ _ _ _ w (riA hw) (riA hw))) | exact (ov_call rfl (fun w hw => c_heldScene (Sx.doEdit s0 s1) _ _ w (reA hw) (by omega) (by have := hdl (by omega); omega))))) | (apply kCallB; (first | exact aBlt | exact aLenR)))) | (apply kOLoad; (first | exact aLdF | exact aLdR)) | exact ov_fieldAddr rfl | (apply kOIdx; (first | exact aIdx)) | exact aRest | exact aNew | exact (ov_field1 (ft := 25) rfl rfl rfl rfl))) | (refine kN ?_; (first | (refine kCall ?_; (first | (refine kWFunc ?_; (refine s_callF (fun u H => OScene u _ H) rfl (fun w hw => c_toScene _ _ w (reA hw) (by omega)) rfl (fun u H hu => ?_); obtain ⟨d', rfl, hu⟩ := hu; have f1 := hu.form; obtain ⟨_, _, rfl⟩ := f1)) | (refine kWFn 10 ?_; (refine s_callF (fun u H => OEdit u s1 H) rfl (fun w hw => c_toEdit s1 _ w (riA hw) (by omega)) rfl (fun u H hu => ?_); obtain ⟨d', rfl, hu⟩ := hu; have f1 := hu.form; obtain ⟨_, _, rfl⟩ := f1)) | (refine kWFn 14 ?_; (first | refine s_markSceneX _ s0 rfl (by assumption) gpA (by omega) (by omega) rfl (fun H' hm => ?_) | refine s_markSceneX _ (Sx.doEdit s0 s1) rfl (by assumption) gpA (by omega) (by have := hdl (by omega); omega) rfl (fun H' hm => ?_))) | (refine kWFn 15 ?_; (refine s_markEdit _ s1 rfl (by assumption) gpA (by omega) rfl (fun H' hu => ?_))) | (refine kWFn 8 ?_; (refine s_callF (fun u H => OSceneB u (Sx.doEdit s0 s1) (decide (Sx.doEditOk s0 s1)) H) rfl (fun w hw => c_sdoEdit s0 s1 _ _ w (reA hw) (riA hw) (by omega) (by omega)) rfl (fun u H hu => ?_); obtain ⟨v6, rfl, hu⟩ := hu; have f1 := hu.form; obtain ⟨_, _, rfl⟩ := f1)) | (refine kWFn 11 ?_; (refine s_callF (fun u H => OSceneB u (Sx.doEdit s0 s1) (decide (Sx.doEditOk s0 s1)) H) rfl (fun w hw => c_idoEdit s0 s1 _ _ w (reA hw) (riA hw) (by omega) (by omega)) rfl (fun u H hu => ?_); obtain ⟨v6, rfl, hu⟩ := hu; have f1 := hu.form; obtain ⟨_, _, rfl⟩ := f1)) | apply s_step)) | (refine kStore ?_; (first | (refine s_storeS _ rfl rfl gpA rfl (ones_cons rfl (ones_cons rfl (ones_cons rfl (ones_cons (OElems.one (by assumption)) rfl)))) (by rfl) ?_) | (refine s_storeS _ rfl rfl gpA rfl (eEdit_ones (OInts.one (by assumption))) (by rfl) ?_) | refine s_store1 _ rfl rfl gpA rfl (by rfl) ?_ | refine s_storeS _ rfl rfl gpA rfl rfl (by rfl) ?_ | refine s_storeS _ rfl rfl gpA rfl (ones_img oiA) (by rfl) ?_)) | refine s_boxS rfl rfl (fun b hb => ?_) | refine s_allocS rfl (fun b hb => ?_) | refine s_box1 rfl rfl rfl (fun b hb => ?_) | refine s_alloc1 rfl rfl (fun b hb => ?_) | refine s_buildSlice0 rfl (fun b hb => ?_) | refine s_buildSlice rfl rfl rfl rfl rfl (fun b hb => ?_) | apply s_step)) | (refine kG ?_; (first | refine s_gyes rfl rfl rfl ?_ | refine s_gno rfl rfl rfl rfl rfl ?_ | ((first | refine s_split_d rfl rfl (fun h => ?_) (fun h => ?_) | refine s_split_n rfl rfl (fun h => ?_) (fun h => ?_)) <;> (try (first | contradiction | (exfalso; omega)))) | refine s_split_nb rfl rfl (fun h => ?_) (fun h => ?_) | refine s_split rfl rfl (fun h => ?_) (fun h => ?_))) | (refine kS ?_; (first | refine h_exec rfl ?_ | refine h_take_nil rfl rfl rfl ?_ | refine h_take_pick rfl rfl rfl ?_ | refine h_nil ?_ | refine h_alt ?_ ?_ | apply h_take)) | (refine kBack ?_; (first | refine h_back_last rfl ?_ | refine h_backN rfl subA ?_)) | refine l_then ?_ | (refine kC ?_; (first | (refine kReg 8 ?_; refine c_regionSN (SPlan.take 0 (SPlan.take 2 ((SPlan.run 1 ((SPlan.run 3 ((SPlan.run 4 (SPlan.take 5 (SPlan.take 6 (SPlan.take 7 (SPlan.run 8 (SPlan.run 9 (SPlan.take 10 SPlan.done))))))).alt (SPlan.run 8 (SPlan.run 4 (SPlan.take 5 (SPlan.take 6 (SPlan.take 7 (SPlan.run 9 (SPlan.take 10 SPlan.done))))))))).alt (SPlan.run 8 (SPlan.run 3 (SPlan.run 4 (SPlan.take 5 (SPlan.take 6 (SPlan.take 7 (SPlan.run 9 (SPlan.take 10 SPlan.done)))))))))).alt (SPlan.run 8 (SPlan.run 1 (SPlan.run 3 (SPlan.run 4 (SPlan.take 5 (SPlan.take 6 (SPlan.take 7 (SPlan.run 9 (SPlan.take 10 SPlan.done)))))))))))) none rfl rfl (by decide +kernel) ?_) | (refine kReg 14 ?_; refine c_regionSN (SPlan.take 0 (SPlan.take 1 (SPlan.run 2 (SPlan.run 3 (SPlan.take 4 SPlan.done))))) none rfl rfl (by decide +kernel) ?_) | (refine kReg 16 ?_; refine c_regionSN (SPlan.take 0 (SPlan.take 1 (SPlan.run 2 (SPlan.run 3 (SPlan.take 4 SPlan.done))))) none rfl rfl (by decide +kernel) ?_) | (refine kReg 31 ?_; refine c_regionSN (SPlan.take 0 (SPlan.take 2 ((SPlan.run 1 ((SPlan.run 3 ((SPlan.run 4 (SPlan.take 5 (SPlan.take 6 (SPlan.take 7 (SPlan.run 8 (SPlan.run 9 (SPlan.take 10 SPlan.done))))))).alt (SPlan.run 8 (SPlan.run 4 (SPlan.take 5 (SPlan.take 6 (SPlan.take 7 (SPlan.run 9 (SPlan.take 10 SPlan.done))))))))).alt (SPlan.run 8 (SPlan.run 3 (SPlan.run 4 (SPlan.take 5 (SPlan.take 6 (SPlan.take 7 (SPlan.run 9 (SPlan.take 10 SPlan.done)))))))))).alt (SPlan.run 8 (SPlan.run 1 (SPlan.run 3 (SPlan.run 4 (SPlan.take 5 (SPlan.take 6 (SPlan.take 7 (SPlan.run 9 (SPlan.take 10 SPlan.done)))))))))))) none rfl rfl (by decide +kernel) ?_) | refine c_seq ?_ | refine c_regionN rfl ?_ | refine c_ret ?_ | (refine kCond ?_; (first | refine c_cond_t rfl ?_ | refine c_cond_f rfl ?_ | ((first | refine c_cond_d rfl (fun h => ?_) (fun h => ?_) | refine c_cond_n rfl (fun h => ?_) (fun h => ?_)) <;> (try (first | contradiction | (exfalso; omega)))) | refine c_cond_nb rfl (fun h => ?_) (fun h => ?_) | refine c_cond rfl (fun h => ?_) (fun h => ?_))) | refine c_block ?_ | refine c_skip ?_ | refine c_exit ?_ | refine c_regionQN rfl rfl (by decide +kernel) ?_)) | apply s_stepQ | (refine kQG ?_; (first | refine s_gyesQ rfl rfl rfl ?_ | refine s_gnoQ rfl rfl rfl rfl rfl ?_ | ((first | refine s_splitQ_d rfl rfl (fun h => ?_) (fun h => ?_) | refine s_splitQ_n rfl rfl (fun h => ?_) (fun h => ?_)) <;> (try (first | contradiction | (exfalso; omega)))) | refine s_splitQ_nb rfl rfl (fun h => ?_) (fun h => ?_) | refine s_splitQ rfl rfl (fun h => ?_) (fun h => ?_))) | refine lQ_then ?_ | refine lQ_ends ?_ | (refine kE ?_; (first | refine e_then_r ?_ | refine e_block_r ?_ | refine e_then_n ?_ | refine e_then_x ?_ | refine e_block_n ?_ | refine e_block_x ?_ | refine e_block_y rfl ?_)) | refine l_ends ?_)
  all_goals refine s_leave1 rfl rfl (fun w hw => ⟨?_, hw.below⟩)
  all_goals first | rfl | (exfalso; omega)
set_option maxRecDepth 100000 in
theorem lifted (os : Os) (started : os.Started) (H : Type) (enc : TypeId × Value → H) :
    ReturnsInHanded {} Try.checked os 3 .any (Rows.fnExactDoEditSpec.pre6 enc Try.prog Try.f3 Rows.fnExactDoEditRow.domain false) (Rows.fnExactDoEditSpec.post enc Try.prog Try.f3 false true false false) :=
  lift (C := Try.checked) (P := Try.prog) rfl Hd.own started (by kernel_rfl) Try.func3
    (ChangeSpec.witness6 (enc := enc) (C := Try.checked) false ⟨#[], #[(.agg #[.int .i64 0, .int .i64 0, .int .i64 0, .slice none 0 0]), (.agg #[.int .i64 0, .int .i64 0, .int .i64 0, .int .i64 0, .int .i64 0, .int .i64 0, .slice none 0 0])], []⟩ 8 (by kernel_rfl) (by kernel_rfl) (by kernel_rfl) (by kernel_rfl))
    Hd.laid (by kernel_rfl) rfl Try.underlying4 rfl (fun ds hd => by match ds, hd with | [d0, d1], _ => rfl) walk
theorem closed : joinedFacts Try.prog 3 Try.f3 Rows.fnExactDoEditSpec Rows.fnExactDoEditRow = true := by
  rw [joinedFacts, Hd.enter, Hd.lifts, Hd.make]; kernel_rfl
theorem over : Rows.fnExactDoEditRow.holds Try.pinned (OpenSpec.ofChange Rows.fnExactDoEditSpec) :=
  OpenClaim.holds_of_wide 3 Try.f3 rfl rfl rfl rfl rfl rfl rfl ⟨rfl, rfl, rfl, rfl, rfl⟩ rfl rfl rfl rfl rfl (by kernel_rfl) Try.func3 closed
    (of_decide_eq_true (by kernel_rfl)) (by unfold Func.isWrapper; first | (rw [if_pos (by decide +kernel)]; kernel_rfl) | (rw [if_neg (by decide +kernel)]; exact ⟨rfl, rfl⟩))
    (fun os started H enc _ => lifted os started H enc)
theorem proved : Rows.FnExactDoEditSaid := over
end Go.Proofs.Ytiainpcigdenaaa.doEdit
