/-
  Rules for the color maps that the laws mark.
-/
import Derived.Test.YtfmjeakcfmmkfaaGreatK16
import Derived.Test.YtfmjeakcfmmkfaaGreatK5
set_option linter.unusedVariables false
namespace Go.Proofs.YtfmjeakcfmmkfaaGreat
open Go Sx
attribute [local irreducible] Exit.then Exit.inBlock bodyPost
theorem OColor.form {u : Value} {c : DColor} {H : SPiece} (h : OColor u c H) : ∃ p q r s, u = .agg #[.slice p c.mat.length q, .slice r c.curve.length s] := by
  obtain ⟨a, b, H1, H2, rfl, o1, o2, rfl⟩ := h
  have f1 := o1.form
  have f2 := o2.form
  obtain ⟨_, _, rfl⟩ := f1
  obtain ⟨_, _, rfl⟩ := f2
  exact ⟨_, _, _, _, rfl⟩
theorem OColor.r1 {a b : Value} {c : DColor} {H : SPiece} (h : OColor (.agg #[a, b]) c H) {w : World} (hw : Holds w H) : RInts w a c.mat := by
  obtain ⟨a', b', H1, H2, e, o1, o2, rfl⟩ := h
  simp only [Value.agg.injEq, Array.mk.injEq, List.cons.injEq, and_true] at e
  obtain ⟨rfl, rfl⟩ := e
  exact OInts.reads o1 (hw.sub (i := 1) rfl)
theorem OColor.r2 {a b : Value} {c : DColor} {H : SPiece} (h : OColor (.agg #[a, b]) c H) {w : World} (hw : Holds w H) : RInts w b c.curve := by
  obtain ⟨a', b', H1, H2, e, o1, o2, rfl⟩ := h
  simp only [Value.agg.injEq, Array.mk.injEq, List.cons.injEq, and_true] at e
  obtain ⟨rfl, rfl⟩ := e
  exact OInts.reads o2 (hw.sub (i := 0) rfl)
def szC (a b : Nat) (left : Int) : Int := if left - a < 0 ∨ left - a - b < 0 then -1 else left - a - b
theorem szC_or (a b : Nat) (left : Int) : szC a b left = -1 ∧ left < a + b ∨ szC a b left = left - a - b ∧ (a : Int) + b ≤ left := by
  unfold szC; split <;> omega
theorem c_szCM (vm vc : Value) (k l : List Int) (left : Int) (w : World) (hm : RInts w vm k) (hc : RInts w vc l) (hl : 0 ≤ left ∧ left ≤ 1048576) : SYields Tryz.prog 22 #[.agg #[vm, vc], .int .i64 left] (.int .i64 (szC k.length l.length left)) w := c_szColorMap vm vc k l left w hm hc hl
theorem c_heap {P : Program} {n : Nat} {lo : SMut} {s : World} {c : Code} {Q : Exit → Act → World → Prop} {E : SEnv} {L L' : SHeap} (h : ∀ w, SSt lo s L w → SSt lo s L' w) (k : WPC P n lo s c Q E L') : WPC P n lo s c Q E L := by
  unfold WPC at *
  exact fun a w ha hw => k a w ha (h w hw)
theorem c_markColorMap (u : Value) (c : DColor) (H : SPiece) (q : Int) (w : World) (hu : OColor u c H) (hH : Holds w H) (hn : H.keys.Nodup) (hl : c.mat.length ≤ 1048576 ∧ c.curve.length ≤ 1048576) (hk : 0 ≤ q ∧ q ≤ 1000000000000) :
    SYieldsG Tryz.prog 31 #[u, .int .i64 q] H (fun v H' F => v = .int .i64 (q + c.mat.length + c.curve.length)) w := by
  obtain ⟨a, b0, H1, H2, rfl, o1, o2, rfl⟩ := hu
  have f1 := o1.form
  have f2 := o2.form
  obtain ⟨_, _, rfl⟩ := f1
  obtain ⟨_, _, rfl⟩ := f2
  refine SYieldsG.mk (s_enterM Tryz.func31 rfl Tryz.ntmps31 rfl hH hn ?_)
  refine c_heap (L' := [H2, H1]) (fun w hw => hw.perm (by simp)) ?_
  repeat' (first | exact rfl | (apply kO; (first | exact ov_pure rfl | (apply kOBin; (first | exact aBin)) | (apply kOCall; (first | (apply kCallB; (first | exact aBlt | exact aLenR)))) | (apply kOLoad; (first | exact aLdF | exact aLdR)) | exact ov_fieldAddr rfl | (apply kOIdx; (first | exact aIdx)) | exact aRest | exact aNew | exact (ov_field1 (ft := 31) rfl rfl rfl rfl))) | (refine kN ?_; (first | (refine kCall ?_; (first | (refine kWFn 32 ?_; (refine s_markI _ rfl (by assumption) gpA (by omega) rfl (fun H' hu => ?_))) | apply s_step)) | (refine kStore ?_; (first | refine s_store1 _ rfl rfl gpA rfl (by rfl) ?_ | refine s_storeS _ rfl rfl gpA rfl rfl (by rfl) ?_ | refine s_storeS _ rfl rfl gpA rfl (ones_img oiA) (by rfl) ?_)) | refine s_boxS rfl rfl (fun b hb => ?_) | refine s_allocS rfl (fun b hb => ?_) | refine s_box1 rfl rfl rfl (fun b hb => ?_) | refine s_alloc1 rfl rfl (fun b hb => ?_) | refine s_buildSlice0 rfl (fun b hb => ?_) | refine s_buildSlice rfl rfl rfl rfl rfl (fun b hb => ?_) | apply s_step)) | (refine kG ?_; (first | refine s_gyes rfl rfl rfl ?_ | refine s_gno rfl rfl rfl rfl rfl ?_ | ((first | refine s_split_d rfl rfl (fun h => ?_) (fun h => ?_) | refine s_split_n rfl rfl (fun h => ?_) (fun h => ?_)) <;> (try (first | contradiction | (exfalso; omega)))) | refine s_split_nb rfl rfl (fun h => ?_) (fun h => ?_) | refine s_split rfl rfl (fun h => ?_) (fun h => ?_))) | refine l_then ?_ | (refine kC ?_; (first | refine c_seq ?_ | refine c_region ?_ | refine c_ret ?_ | (refine kCond ?_; (first | refine c_cond_t rfl ?_ | refine c_cond_f rfl ?_ | ((first | refine c_cond_d rfl (fun h => ?_) (fun h => ?_) | refine c_cond_n rfl (fun h => ?_) (fun h => ?_)) <;> (try (first | contradiction | (exfalso; omega)))) | refine c_cond_nb rfl (fun h => ?_) (fun h => ?_) | refine c_cond rfl (fun h => ?_) (fun h => ?_))) | refine c_block ?_ | refine c_skip ?_ | refine c_exit ?_ | refine c_regionQ rfl (by decide +kernel) ?_)) | apply s_stepQ | (refine kQG ?_; (first | refine s_gyesQ rfl rfl rfl ?_ | refine s_gnoQ rfl rfl rfl rfl rfl ?_ | ((first | refine s_splitQ_d rfl rfl (fun h => ?_) (fun h => ?_) | refine s_splitQ_n rfl rfl (fun h => ?_) (fun h => ?_)) <;> (try (first | contradiction | (exfalso; omega)))) | refine s_splitQ_nb rfl rfl (fun h => ?_) (fun h => ?_) | refine s_splitQ rfl rfl (fun h => ?_) (fun h => ?_))) | refine lQ_then ?_ | refine lQ_ends ?_ | (refine kE ?_; (first | refine e_then_r ?_ | refine e_block_r ?_ | refine e_then_n ?_ | refine e_then_x ?_ | refine e_block_n ?_ | refine e_block_x ?_ | refine e_block_y rfl ?_)) | refine l_ends ?_)
  all_goals refine s_leave1 rfl rfl (fun w hw => ⟨_, _, _, rfl, rfl, hw.sub (selO_sub [false, false, false, true, true] _ _ rfl)⟩)
section
variable {n : Nat} {lo : SMut} {s : World} {ops : Array Oper} {Q : Exit → Act → World → Prop} {E : SEnv} {L : SHeap} {dd : Nat} {ty : TypeId} {pos : String} {after : Array Edge} {rest : List Oper}
theorem s_markCM (i : Nat) {u : Value} {c : DColor} {k : Int} {H : SPiece} {args : List Operand} {ts : Array TypeId} (ha : svals E args = some [u, .int .i64 k]) (hv : OColor u c H) (hL : getL L i = some H) (hl : c.mat.length ≤ 1048576 ∧ c.curve.length ≤ 1048576) (hk : 0 ≤ k ∧ k ≤ 1000000000000) (hd : Nat.blt dd n = true)
    (cc : ∀ H' F, WPL Tryz.prog n lo s ops Q rest ((dd, .int .i64 (k + c.mat.length + c.curve.length)) :: E) (F :: setL L i H')) :
    WPL Tryz.prog n lo s ops Q (⟨some dd, .call { callee := .value (.func 31), args := args.toArray, argTypes := ts }, ty, pos, after, none⟩ :: rest) E L :=
  s_callG i (fun v H' F => v = .int .i64 (k + c.mat.length + c.curve.length)) ha hL (fun w hw hh hn => c_markColorMap u c H k w hv hh hn hl hk) hd (fun v' H' F hu => by subst hu; exact cc H' F)
end
end Go.Proofs.YtfmjeakcfmmkfaaGreat
