/-
  The program's ColoredScene returns what the reference's returns, for all arguments. No condition.
-/
import Derived.Test.YtfmjeakcfmmkfaaGreatD2
import Derived.Test.YtfmjeakcfmmkfaaGreatL7
import Derived.Test.YtfmjeakcfmmkfaaGreatL21
import Derived.Test.YtfmjeakcfmmkfaaGreatK19
import Derived.Test.YtfmjeakcfmmkfaaGreatKW
import Derived.Test.YtfmjeakcfmmkfaaGreatHead
set_option linter.unusedVariables false
namespace Go.Proofs.YtfmjeakcfmmkfaaGreat.coloredScene
open Go Sx Go.ChangeShapes Go.WideShapes Go.ChangeAt Go.RowKit
attribute [local irreducible] Exit.then Exit.inBlock bodyPost OVs OInts Sx.coloredScene szC szI
set_option maxRecDepth 100000 in
set_option maxHeartbeats 4000000 in
theorem walk : LawWalk Tryz.prog 4 Tryz.f4 := by
  intro W base args hs hv
  obtain ⟨v0, e0⟩ := arg_at hs (j := 0) (t := 55) rfl
  obtain ⟨v1, e1⟩ := arg_at hs (j := 1) (t := 57) rfl
  have hargs := args2 (by simpa using hs) e0 e1
  obtain ⟨cs0, ha0, r0⟩ := okv_struct (hv 0 55 v0 rfl e0)
  obtain ⟨cs1, ha1, r1⟩ := okv_struct (hv 1 57 v1 rfl e1)
  subst hargs
  clear hv hs e0 e1
  subst ha0
  subst ha1
  obtain ⟨s0, d0, ee0, rr0⟩ := open_scene r0
  clear r0; subst ee0; have hl0 := rr0.len
  obtain ⟨l1, q1⟩ := r1.struct
  obtain ⟨x1_0, k1_0, g1_0, y1_0⟩ := (SRd.sub q1 0 0 31 rfl).ints
  obtain ⟨x1_1, k1_1, g1_1, y1_1⟩ := (SRd.sub q1 1 1 31 rfl).ints
  have c1 : cs1 = [x1_0, x1_1] := cells_eq l1 rfl (fun k hk => match k, hk with | 0, _ => take1 g1_0 | 1, _ => take1 g1_1 | k + 2, hk => absurd hk (by omega))
  subst c1
  clear r1 l1 q1 g1_0 g1_1
  have hl := y1_0.len
  have hl2 := y1_1.len
  have p0 := y1_0.form
  have p1 := y1_1.form
  obtain ⟨ma, mc, rfl⟩ := p0
  obtain ⟨ca, cc, rfl⟩ := p1
  have z0 := szI_or (surfsLen s0.ss) (1048576)
  have hsl : s0.ss.length ≤ surfsLen s0.ss := Nat.le_add_right _ _
  have hm := heldI_mark 1 (Sx.coloredScene s0 ⟨k1_0, k1_1⟩).length
  have hbd := coloredScene_len s0 ⟨k1_0, k1_1⟩
  have z1 := szC_or k1_0.length k1_1.length (szI (surfsLen s0.ss) 1048576)
  (first | apply SYields.mk | apply SYieldsF.mk | skip); refine s_enter Tryz.func4 rfl Tryz.ntmps4 rfl ?_
  repeat' (first | exact rfl | (apply kO; (first | exact ov_pure rfl | (apply kOBin; (first | exact aBin)) | (apply kOCall; (first | (apply kCallF; (first | exact (ov_call rfl (fun w hw => c_szScene _ _ _ w (reA hw) (by omega))) | exact (ov_call rfl (fun w hw => c_eqScene _ _ _ _ w (reA hw) (reA hw))) | exact (ov_call rfl (fun w hw => c_szCM _ _ _ _ _ w (riA hw) (riA hw) (by omega))) | exact (ov_call rfl (fun w hw => c_eqColorMap _ _ _ _ ⟨_, _⟩ ⟨_, _⟩ w (by first | exact RInts.keep (by assumption) (hw.cells rfl) | exact OColor.r1 (by assumption) (hfA hw) | exact OColor.r2 (by assumption) (hfA hw)) (by first | exact RInts.keep (by assumption) (hw.cells rfl) | exact OColor.r1 (by assumption) (hfA hw) | exact OColor.r2 (by assumption) (hfA hw)) (by first | exact RInts.keep (by assumption) (hw.cells rfl) | exact OColor.r1 (by assumption) (hfA hw) | exact OColor.r2 (by assumption) (hfA hw)) (by first | exact RInts.keep (by assumption) (hw.cells rfl) | exact OColor.r1 (by assumption) (hfA hw) | exact OColor.r2 (by assumption) (hfA hw)))) | exact (ov_call rfl (fun w hw => c_eqIntS _ _ _ _ w (riA hw) (riA hw))) | exact (ov_call rfl (fun w hw => c_heldIntS _ _ _ w (riA hw) (by rw [iota_length]; omega))))) | (apply kCallB; (first | exact aBlt | exact aLenR)))) | (apply kOLoad; (first | exact aLdF | exact aLdR)) | exact ov_fieldAddr rfl | (apply kOIdx; (first | exact aIdx)) | exact aRest | exact aNew | exact (ov_field1 (ft := 31) rfl rfl rfl rfl))) | (refine kN ?_; (first | (refine kCall ?_; (first | (refine kWFunc ?_; (refine s_callF (fun u H => OScene u _ H) rfl (fun w hw => c_toScene _ _ w (reA hw) (by omega)) rfl (fun u H hu => ?_); obtain ⟨d', rfl, hu⟩ := hu; have f1 := hu.form; obtain ⟨_, _, rfl⟩ := f1)) | (refine kWFn 30 ?_; (refine s_markScene _ s0 rfl (by assumption) gpA (by omega) (by omega) rfl (fun H' F => ?_))) | (refine kWFn 25 ?_; (refine s_callF (fun u H => OColor u ⟨k1_0, k1_1⟩ H) rfl (fun w hw => c_toColorMap _ _ _ _ w (riA hw) (riA hw) (by omega) (by omega)) rfl (fun u H hu => ?_); have f1 := hu.form; obtain ⟨_, _, _, _, rfl⟩ := f1)) | (refine kWFn 31 ?_; (refine s_markCM _ rfl (by assumption) gpA (by (try dsimp only); omega) (by omega) rfl (fun H' F => ?_))) | (refine kWFn 32 ?_; (refine s_markI _ rfl (by assumption) gpA (by omega) rfl (fun H' hu => ?_))) | (refine kWFn 23 ?_; (refine s_callF (fun u H => OInts 3 u (Sx.coloredScene s0 ⟨k1_0, k1_1⟩) H) rfl (fun w hw => c_scoloredScene s0 _ _ _ ⟨k1_0, k1_1⟩ w (reA hw) (by first | exact RInts.keep (by assumption) (hw.cells rfl) | exact OColor.r1 (by assumption) (hfA hw) | exact OColor.r2 (by assumption) (hfA hw)) (by first | exact RInts.keep (by assumption) (hw.cells rfl) | exact OColor.r1 (by assumption) (hfA hw) | exact OColor.r2 (by assumption) (hfA hw))) rfl (fun u H hu => ?_); have f1 := hu.form; obtain ⟨_, _, rfl⟩ := f1)) | (refine kWFn 26 ?_; (refine s_callF (fun u H => OInts 3 u (Sx.coloredScene s0 ⟨k1_0, k1_1⟩) H) rfl (fun w hw => c_icoloredScene s0 _ _ _ ⟨k1_0, k1_1⟩ w (reA hw) (by first | exact RInts.keep (by assumption) (hw.cells rfl) | exact OColor.r1 (by assumption) (hfA hw) | exact OColor.r2 (by assumption) (hfA hw)) (by first | exact RInts.keep (by assumption) (hw.cells rfl) | exact OColor.r1 (by assumption) (hfA hw) | exact OColor.r2 (by assumption) (hfA hw))) rfl (fun u H hu => ?_); have f1 := hu.form; obtain ⟨_, _, rfl⟩ := f1)) | apply s_step)) | (refine kStore ?_; (first | refine s_store1 _ rfl rfl gpA rfl (by rfl) ?_ | refine s_storeS _ rfl rfl gpA rfl rfl (by rfl) ?_ | refine s_storeS _ rfl rfl gpA rfl (ones_img oiA) (by rfl) ?_)) | refine s_boxS rfl rfl (fun b hb => ?_) | refine s_allocS rfl (fun b hb => ?_) | refine s_box1 rfl rfl rfl (fun b hb => ?_) | refine s_alloc1 rfl rfl (fun b hb => ?_) | refine s_buildSlice0 rfl (fun b hb => ?_) | refine s_buildSlice rfl rfl rfl rfl rfl (fun b hb => ?_) | apply s_step)) | (refine kG ?_; (first | refine s_gyes rfl rfl rfl ?_ | refine s_gno rfl rfl rfl rfl rfl ?_ | ((first | refine s_split_d rfl rfl (fun h => ?_) (fun h => ?_) | refine s_split_n rfl rfl (fun h => ?_) (fun h => ?_)) <;> (try (first | contradiction | (exfalso; omega)))) | refine s_split_nb rfl rfl (fun h => ?_) (fun h => ?_) | refine s_split rfl rfl (fun h => ?_) (fun h => ?_))) | (refine kS ?_; (first | refine h_exec rfl ?_ | refine h_take_nil rfl rfl rfl ?_ | refine h_take_pick rfl rfl rfl ?_ | refine h_nil ?_ | refine h_alt ?_ ?_ | apply h_take)) | refine h_back_last rfl ?_ | refine h_back subA ?_ | refine l_then ?_ | (refine kC ?_; (first | (refine c_regionS (SPlan.take 0 (SPlan.take 2 (SPlan.run 1 (SPlan.run 3 (SPlan.run 4 (SPlan.take 5 SPlan.done)))))) none rfl (by decide +kernel) ?_) | (refine c_regionS (SPlan.take 0 (SPlan.take 1 (SPlan.run 2 (SPlan.run 3 (SPlan.take 4 SPlan.done))))) none rfl (by decide +kernel) ?_) | (refine c_regionS (SPlan.take 0 (SPlan.take 1 (SPlan.run 2 (SPlan.run 3 (SPlan.take 4 SPlan.done))))) none rfl (by decide +kernel) ?_) | (refine c_regionS (SPlan.take 0 (SPlan.take 2 (SPlan.run 1 (SPlan.run 3 (SPlan.run 4 (SPlan.take 5 SPlan.done)))))) none rfl (by decide +kernel) ?_) | (refine kSeqR 8 ?_; refine c_join (ι := Value × SPiece) [true, true, true, true, true, true, true, true, true, true, true, true, true, true, true, true] (fun j => OInts 3 j.1 (Sx.coloredScene s0 ⟨k1_0, k1_1⟩) j.2) (fun j => [(6, j.1)]) (fun j => [j.2]) rfl rfl (fun _ => rfl) (fun _ => rfl) ?_ (fun j hj => ?_)) | (refine kSeqR 31 ?_; refine c_join (ι := Value × SPiece) [false, false, false, false, false, true, false, false, false, false, true, true, true] (fun j2 => OInts 3 j2.1 (Sx.coloredScene s0 ⟨k1_0, k1_1⟩) j2.2) (fun j2 => [(13, j2.1)]) (fun j2 => [j2.2]) rfl rfl (fun _ => rfl) (fun _ => rfl) ?_ (fun j2 hj2 => ?_)) | refine c_seq ?_ | refine c_region ?_ | refine c_ret ?_ | (refine kCond ?_; (first | refine c_cond_t rfl ?_ | refine c_cond_f rfl ?_ | ((first | refine c_cond_d rfl (fun h => ?_) (fun h => ?_) | refine c_cond_n rfl (fun h => ?_) (fun h => ?_)) <;> (try (first | contradiction | (exfalso; omega)))) | refine c_cond_nb rfl (fun h => ?_) (fun h => ?_) | refine c_cond rfl (fun h => ?_) (fun h => ?_))) | refine c_block ?_ | refine c_skip ?_ | refine c_exit ?_ | refine c_regionQ rfl (by decide +kernel) ?_)) | apply s_stepQ | (refine kQG ?_; (first | refine s_gyesQ rfl rfl rfl ?_ | refine s_gnoQ rfl rfl rfl rfl rfl ?_ | ((first | refine s_splitQ_d rfl rfl (fun h => ?_) (fun h => ?_) | refine s_splitQ_n rfl rfl (fun h => ?_) (fun h => ?_)) <;> (try (first | contradiction | (exfalso; omega)))) | refine s_splitQ_nb rfl rfl (fun h => ?_) (fun h => ?_) | refine s_splitQ rfl rfl (fun h => ?_) (fun h => ?_))) | refine lQ_then ?_ | refine lQ_ends ?_ | (refine kE ?_; (first | (exact e_joinP (_, H) hu ⟨rfl, (by repeat' first | exact trivial | refine ⟨rfl, ?_⟩)⟩ (by (repeat' first | exact Picks.nil | exact gp_hd | apply gp_tl | apply Picks.cons); done) (by rfl)) | refine e_then_r ?_ | refine e_block_r ?_ | refine e_then_n ?_ | refine e_then_x ?_ | refine e_block_n ?_ | refine e_block_x ?_ | refine e_block_y rfl ?_)) | refine l_ends ?_)
  all_goals refine s_leave1 rfl rfl (fun w hw => ⟨?_, hw.below⟩)
  all_goals first | rfl | (exfalso; omega)
set_option maxRecDepth 100000 in
theorem lifted (os : Os) (started : os.Started) (H : Type) (enc : TypeId × Value → H) :
    ReturnsInHanded {} Tryz.checked os 4 .any (Rows.fnExactColoredSceneSpec.pre6 enc Tryz.prog Tryz.f4 Rows.fnExactColoredSceneRow.domain false) (Rows.fnExactColoredSceneSpec.post enc Tryz.prog Tryz.f4 false true false false) :=
  lift (C := Tryz.checked) (P := Tryz.prog) rfl Hd.own started (by kernel_rfl) Tryz.func4
    (ChangeSpec.witness6 (enc := enc) (C := Tryz.checked) false ⟨#[], #[(.agg #[.int .i64 0, .int .i64 0, .int .i64 0, .slice none 0 0]), (.agg #[.slice none 0 0, .slice none 0 0])], []⟩ 8 (by kernel_rfl) (by kernel_rfl) (by kernel_rfl) (by kernel_rfl))
    Hd.laid (by kernel_rfl) rfl Tryz.underlying4 rfl (fun ds hd => by match ds, hd with | [d0, d1], _ => rfl) walk
theorem closed : joinedFacts Tryz.prog 4 Tryz.f4 Rows.fnExactColoredSceneSpec Rows.fnExactColoredSceneRow = true := by
  rw [joinedFacts, Hd.enter, Hd.lifts, Hd.make]; kernel_rfl
theorem over : Rows.fnExactColoredSceneRow.holds Tryz.pinned (OpenSpec.ofChange Rows.fnExactColoredSceneSpec) :=
  OpenClaim.holds_of_wide 4 Tryz.f4 rfl rfl rfl rfl rfl rfl rfl ⟨rfl, rfl, rfl, rfl, rfl⟩ rfl rfl rfl rfl rfl (by kernel_rfl) Tryz.func4 closed
    (of_decide_eq_true (by kernel_rfl)) (by unfold Func.isWrapper; first | (rw [if_pos (by decide +kernel)]; kernel_rfl) | (rw [if_neg (by decide +kernel)]; exact ⟨rfl, rfl⟩))
    (fun os started H enc _ => lifted os started H enc)
theorem proved : Rows.FnExactColoredSceneSaid := over
end Go.Proofs.YtfmjeakcfmmkfaaGreat.coloredScene
