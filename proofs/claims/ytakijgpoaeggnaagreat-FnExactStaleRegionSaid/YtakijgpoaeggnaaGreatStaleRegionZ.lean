/-
  The program's StaleRegion returns what the reference's returns, for all arguments. No condition.
-/
import Derived.Test.YtakijgpoaeggnaaGreatHead
import Derived.Test.YtakijgpoaeggnaaGreatStaleRegionB5
set_option linter.unusedVariables false
namespace Go.Proofs.YtakijgpoaeggnaaGreat.staleRegion
open Go Sx Go.ChangeShapes Go.WideShapes Go.ChangeAt Go.RowKit
theorem stale_len (c : DChain) (k : Int) (s : DScene) : (Sx.staleRegion c k s).length ≤ 128 := by
  unfold Sx.staleRegion
  split
  · exact (staleR_ok _ _ _).length
  · exact Nat.zero_le _
attribute [local irreducible] Exit.then Exit.inBlock bodyPost OVs OInts OElems OChain chainLen markCh szI markSurfs DScene.ok DChain.ok Sx.staleRegion Sx.canon points
set_option maxRecDepth 100000 in
set_option maxHeartbeats 8000000 in
theorem walk : LawWalk Tryz.prog 5 Tryz.f5 := by
  intro W base args hs hv
  obtain ⟨v0, e0⟩ := arg_at hs (j := 0) (t := 60) rfl
  obtain ⟨v1, e1⟩ := arg_at hs (j := 1) (t := 3) rfl
  obtain ⟨v2, e2⟩ := arg_at hs (j := 2) (t := 58) rfl
  have hargs := args3 (by simpa using hs) e0 e1 e2
  obtain ⟨cs0, ha0, r0⟩ := okv_struct (hv 0 60 v0 rfl e0)
  obtain ⟨a1, ha1, b1⟩ := okv_int (hv 1 3 v1 rfl e1)
  obtain ⟨cs2, ha2, r2⟩ := okv_struct (hv 2 58 v2 rfl e2)
  subst hargs
  clear hv hs e0 e1 e2
  subst ha0
  subst ha1
  subst ha2
  obtain ⟨s0, d0, ee0, rr0⟩ := open_chain r0
  clear r0; subst ee0; have hl0 := rr0.len
  obtain ⟨s2, d2, ee2, rr2⟩ := open_scene r2
  clear r2; subst ee2; have hl2 := rr2.len
  obtain ⟨vb, va, vd, vs⟩ := d0
  have z0 := szI_or (chainLen s0) 1048576
  have z1 := szI_or (surfsLen s2.ss) (szI (chainLen s0) 1048576)
  have hsl : s2.ss.length ≤ surfsLen s2.ss := Nat.le_add_right _ _
  have hbd := stale_len s0 a1 s2
  have p2 := rr2.form
  obtain ⟨wa, wc, rfl⟩ := p2
  (first | apply SYields.mk | apply SYieldsF.mk | skip); refine s_enter Tryz.func5 rfl Tryz.ntmps5 rfl ?_
  repeat' (first | exact rfl | (apply kO; (first | exact ov_pure rfl | (apply kOBin; (first | exact aBin)) | (apply kOCall; (first | (apply kCallF; (first | exact (ov_call rfl (fun w hw => c_szChain s0 _ _ _ _ _ w (rr0.keep (hw.cells rfl)) (by omega))) | exact (ov_call rfl (fun w hw => c_szScene s2 _ _ w (reA hw) (by omega))) | exact (ov_call rfl (fun w hw => c_eqChain s0 s0 _ _ _ _ _ _ _ _ w (OChain.rd (by assumption) (hfA hw)) (OChain.rd (by assumption) (hfA hw)))) | exact (ov_call rfl (fun w hw => c_eqScene s2 s2 _ _ w (reA hw) (reA hw))) | exact (ov_call rfl (fun w hw => c_eqRegion _ _ _ _ w (ORects.rd (by assumption) (hfA hw)) (ORects.rd (by assumption) (hfA hw)))) | exact (ov_call rfl (fun w hw => c_heldRegion _ _ _ w (ORects.rd (by assumption) (hfA hw)) (by omega))))) | (apply kCallB; (first | exact aBlt | exact aLenR)))) | (apply kOLoad; (first | exact aLdF | exact aLdR)) | exact ov_fieldAddr rfl | (apply kOIdx; (first | exact aIdx)) | exact aRest | exact aNew | exact (ov_field1 (ft := 31) rfl rfl rfl rfl))) | (refine kN ?_; (first | (refine kCall ?_; (first | (refine kWFn 22 ?_; (refine s_callF (fun u H => OChain u s0 H) rfl (fun w hw => c_toChain s0 _ _ _ _ w (rr0.keep (hw.cells rfl)) (by omega)) rfl (fun u H hu => ?_); have f1 := hu.form; obtain ⟨_, _, _, _, rfl⟩ := f1)) | (refine kWFn 23 ?_; (refine s_callF (fun u H => OScene u s2 H) rfl (fun w hw => c_toScene s2 _ w (reA hw) (by omega)) rfl (fun u H hu => ?_); obtain ⟨d', rfl, hu⟩ := hu; have f1 := hu.form; obtain ⟨_, _, rfl⟩ := f1)) | (refine kWFn 27 ?_; (refine s_markChain _ s0 rfl (by assumption) gpA (by omega) (by omega) rfl (fun H' hm => ?_))) | (refine kWFn 28 ?_; (refine s_markSceneX _ s2 rfl (by assumption) gpA (by have := kC_bd (c := s0) (k := 1) (by omega); omega) (by omega) rfl (fun H' hm => ?_))) | (refine kWFn 21 ?_; (refine s_callF (fun u H => OReg u (Sx.staleRegion s0 a1 s2) H) rfl (fun w hw => c_sstaleRegion s0 s2 a1 _ _ _ _ _ w (OChain.rd (by assumption) (hfA hw)) (reA hw)) rfl (fun u H hu => ?_); obtain ⟨d', rfl, hu⟩ := hu; have f1 := hu.form; obtain ⟨_, _, rfl⟩ := f1)) | (refine kWFn 12 ?_; (refine s_callF (fun u H => OReg u (Sx.staleRegion s0 a1 s2) H) rfl (fun w hw => c_istaleRegion s0 s2 a1 _ _ _ _ _ w (OChain.rd (by assumption) (hfA hw)) (reA hw)) rfl (fun u H hu => ?_); obtain ⟨d', rfl, hu⟩ := hu; have f1 := hu.form; obtain ⟨_, _, rfl⟩ := f1)) | (refine kWFn 29 ?_; (refine s_markReg _ rfl (by assumption) gpA (by omega) rfl (fun H' hu => ?_))) | apply s_step)) | (refine kStore ?_; (first | (refine s_storeS _ rfl rfl gpA rfl (OChain.ones (by assumption)) (by rfl) ?_) | (refine s_storeS _ rfl rfl gpA rfl (ones_cons rfl (ones_cons rfl (ones_cons rfl (ones_cons (OElems.one (by assumption)) rfl)))) (by rfl) ?_) | (refine s_storeS _ rfl rfl gpA rfl (ones_cons (OVs.one (by assumption)) rfl) (by rfl) ?_) | refine s_store1 _ rfl rfl gpA rfl (by rfl) ?_ | refine s_storeS _ rfl rfl gpA rfl rfl (by rfl) ?_ | refine s_storeS _ rfl rfl gpA rfl (ones_img oiA) (by rfl) ?_)) | refine s_boxS rfl rfl (fun b hb => ?_) | refine s_allocS rfl (fun b hb => ?_) | refine s_box1 rfl rfl rfl (fun b hb => ?_) | refine s_alloc1 rfl rfl (fun b hb => ?_) | refine s_buildSlice0 rfl (fun b hb => ?_) | refine s_buildSlice rfl rfl rfl rfl rfl (fun b hb => ?_) | apply s_step)) | (refine kG ?_; (first | refine s_gyes rfl rfl rfl ?_ | refine s_gno rfl rfl rfl rfl rfl ?_ | ((first | refine s_split_d rfl rfl (fun h => ?_) (fun h => ?_) | refine s_split_n rfl rfl (fun h => ?_) (fun h => ?_)) <;> (try (first | contradiction | (exfalso; omega)))) | refine s_split_nb rfl rfl (fun h => ?_) (fun h => ?_) | refine s_split rfl rfl (fun h => ?_) (fun h => ?_))) | (refine kS ?_; (first | refine h_exec rfl ?_ | refine h_take_nil rfl rfl rfl ?_ | refine h_take_pick rfl rfl rfl ?_ | refine h_nil ?_ | refine h_alt ?_ ?_ | apply h_take)) | (refine kBack ?_; (first | refine h_back_last rfl ?_ | refine h_backN rfl subA ?_)) | refine l_then ?_ | (refine kC ?_; (first | (refine kReg 8 ?_; refine c_regionSN (SPlan.take 0 (SPlan.take 2 (SPlan.take 3 ((SPlan.run 1 ((SPlan.run 4 ((SPlan.run 5 (SPlan.run 6 (SPlan.run 7 SPlan.done))).alt (SPlan.run 6 (SPlan.run 5 (SPlan.run 7 SPlan.done))))).alt (SPlan.run 6 (SPlan.run 4 (SPlan.run 5 (SPlan.run 7 SPlan.done)))))).alt (SPlan.run 6 (SPlan.run 1 (SPlan.run 4 (SPlan.run 5 (SPlan.run 7 SPlan.done))))))))) (some 7) rfl rfl (by decide +kernel) ?_) | (refine kReg 8 ?_; refine c_regionSN (SPlan.take 0 (SPlan.take 2 (SPlan.take 3 ((SPlan.run 1 ((SPlan.run 4 ((SPlan.run 5 (SPlan.run 6 (SPlan.run 7 SPlan.done))).alt (SPlan.run 6 (SPlan.run 5 (SPlan.run 7 SPlan.done))))).alt (SPlan.run 6 (SPlan.run 4 (SPlan.run 5 (SPlan.run 7 SPlan.done)))))).alt (SPlan.run 6 (SPlan.run 1 (SPlan.run 4 (SPlan.run 5 (SPlan.run 7 SPlan.done))))))))) none rfl rfl (by decide +kernel) ?_) | (refine kReg 14 ?_; refine c_regionSN (SPlan.take 0 (SPlan.take 1 (SPlan.run 2 (SPlan.run 3 (SPlan.take 4 SPlan.done))))) none rfl rfl (by decide +kernel) ?_) | (refine kReg 16 ?_; refine c_regionSN (SPlan.take 0 (SPlan.take 1 (SPlan.run 2 (SPlan.run 3 (SPlan.take 4 SPlan.done))))) none rfl rfl (by decide +kernel) ?_) | (refine kReg 31 ?_; refine c_regionSN (SPlan.take 0 (SPlan.take 2 (SPlan.take 3 ((SPlan.run 1 ((SPlan.run 4 ((SPlan.run 5 (SPlan.run 6 (SPlan.run 7 SPlan.done))).alt (SPlan.run 6 (SPlan.run 5 (SPlan.run 7 SPlan.done))))).alt (SPlan.run 6 (SPlan.run 4 (SPlan.run 5 (SPlan.run 7 SPlan.done)))))).alt (SPlan.run 6 (SPlan.run 1 (SPlan.run 4 (SPlan.run 5 (SPlan.run 7 SPlan.done))))))))) (some 7) rfl rfl (by decide +kernel) ?_) | (refine kReg 31 ?_; refine c_regionSN (SPlan.take 0 (SPlan.take 2 (SPlan.take 3 ((SPlan.run 1 ((SPlan.run 4 ((SPlan.run 5 (SPlan.run 6 (SPlan.run 7 SPlan.done))).alt (SPlan.run 6 (SPlan.run 5 (SPlan.run 7 SPlan.done))))).alt (SPlan.run 6 (SPlan.run 4 (SPlan.run 5 (SPlan.run 7 SPlan.done)))))).alt (SPlan.run 6 (SPlan.run 1 (SPlan.run 4 (SPlan.run 5 (SPlan.run 7 SPlan.done))))))))) none rfl rfl (by decide +kernel) ?_) | refine c_seq ?_ | refine c_regionN rfl ?_ | refine c_ret ?_ | (refine kCond ?_; (first | refine c_cond_t rfl ?_ | refine c_cond_f rfl ?_ | ((first | refine c_cond_d rfl (fun h => ?_) (fun h => ?_) | refine c_cond_n rfl (fun h => ?_) (fun h => ?_)) <;> (try (first | contradiction | (exfalso; omega)))) | refine c_cond_nb rfl (fun h => ?_) (fun h => ?_) | refine c_cond rfl (fun h => ?_) (fun h => ?_))) | refine c_block ?_ | refine c_skip ?_ | refine c_exit ?_ | refine c_regionQN rfl rfl (by decide +kernel) ?_)) | apply s_stepQ | (refine kQG ?_; (first | refine s_gyesQ rfl rfl rfl ?_ | refine s_gnoQ rfl rfl rfl rfl rfl ?_ | ((first | refine s_splitQ_d rfl rfl (fun h => ?_) (fun h => ?_) | refine s_splitQ_n rfl rfl (fun h => ?_) (fun h => ?_)) <;> (try (first | contradiction | (exfalso; omega)))) | refine s_splitQ_nb rfl rfl (fun h => ?_) (fun h => ?_) | refine s_splitQ rfl rfl (fun h => ?_) (fun h => ?_))) | refine lQ_then ?_ | refine lQ_ends ?_ | (refine kE ?_; (first | refine e_then_r ?_ | refine e_block_r ?_ | refine e_then_n ?_ | refine e_then_x ?_ | refine e_block_n ?_ | refine e_block_x ?_ | refine e_block_y rfl ?_)) | refine l_ends ?_)
  all_goals refine s_leave1 rfl rfl (fun w hw => ⟨?_, hw.below⟩)
  all_goals first | rfl | (exfalso; omega)
set_option maxRecDepth 100000 in
theorem lifted (os : Os) (started : os.Started) (H : Type) (enc : TypeId × Value → H) :
    ReturnsInHanded {} Tryz.checked os 5 .any (Rows.fnExactStaleRegionSpec.pre6 enc Tryz.prog Tryz.f5 Rows.fnExactStaleRegionRow.domain false) (Rows.fnExactStaleRegionSpec.post enc Tryz.prog Tryz.f5 false true false false) :=
  lift (C := Tryz.checked) (P := Tryz.prog) rfl Hd.own started (by kernel_rfl) Tryz.func5
    (ChangeSpec.witness6 (enc := enc) (C := Tryz.checked) false ⟨#[], #[(.agg #[.slice none 0 0, .slice none 0 0, .slice none 0 0, .int .i64 0, .int .i64 0, .int .i64 0, .slice none 0 0]), .int .i64 0, (.agg #[.int .i64 0, .int .i64 0, .int .i64 0, .slice none 0 0])], []⟩ 8 (by kernel_rfl) (by kernel_rfl) (by kernel_rfl) (by kernel_rfl))
    Hd.laid (by kernel_rfl) rfl Tryz.underlying4 rfl (fun ds hd => by match ds, hd with | [d0, d1, d2], _ => rfl) walk
theorem closed : joinedFacts Tryz.prog 5 Tryz.f5 Rows.fnExactStaleRegionSpec Rows.fnExactStaleRegionRow = true := by
  rw [joinedFacts, Hd.enter, Hd.lifts, Hd.make]; kernel_rfl
theorem over : Rows.fnExactStaleRegionRow.holds Tryz.pinned (OpenSpec.ofChange Rows.fnExactStaleRegionSpec) :=
  OpenClaim.holds_of_wide 5 Tryz.f5 rfl rfl rfl rfl rfl rfl rfl ⟨rfl, rfl, rfl, rfl, rfl⟩ rfl rfl rfl rfl rfl (by kernel_rfl) Tryz.func5 closed
    (of_decide_eq_true (by kernel_rfl)) (by unfold Func.isWrapper; first | (rw [if_pos (by decide +kernel)]; kernel_rfl) | (rw [if_neg (by decide +kernel)]; exact ⟨rfl, rfl⟩))
    (fun os started H enc _ => lifted os started H enc)
theorem proved : Rows.FnExactStaleRegionSaid := over
end Go.Proofs.YtakijgpoaeggnaaGreat.staleRegion
