/-
  Texts that the law stands on, part 3: H1, KY, K13, L1, L2, K12, M6, K14, K15, L3, L8, L9, L10, L11, KG.
-/
import Derived.Laws.StructEq
import Derived.Test.YtakijgpoaeggnaaGreatSx
import Derived.Test.YtakijgpoaeggnaaGreatStaleRegionB2
/-
  Chains of buffers in memory, and the laws' own helpers on them: made, measured, compared.
-/
set_option linter.unusedVariables false
namespace Go.Proofs.YtakijgpoaeggnaaGreat
open Go Sx Go.ChangeShapes Go.WideShapes Go.ChangeAt Go.RowKit
attribute [local irreducible] Exit.then Exit.inBlock bodyPost OVs OInts
structure ChV where
  b : Value
  a : Value
  d : Value
  s : Value
abbrev cChain (c : DChain) (v : ChV) : List Value := [v.b, v.a, v.d, .int .i64 c.scene.W, .int .i64 c.scene.H, .int .i64 c.scene.Back, v.s]
abbrev vChain (c : DChain) (b a d s : Value) : Value := .agg #[b, a, d, .int .i64 c.scene.W, .int .i64 c.scene.H, .int .i64 c.scene.Back, s]
structure RCh (w : World) (c : DChain) (b a d s : Value) : Prop where
  bufs : RS eImg w b c.bufs
  ages : RInts w a c.ages
  dams : RS eReg w d c.dams
  surfs : RS eSurf w s c.scene.ss
theorem RCh.keep {w w' : World} {c : DChain} {b a d s : Value} (h : RCh w c b a d s) (hw : ∀ p u, w.cell? p = some u → w'.cell? p = some u) : RCh w' c b a d s := ⟨h.bufs.keep hw, h.ages.keep hw, h.dams.keep hw, h.surfs.keep hw⟩
theorem RCh.len {w : World} {c : DChain} {b a d s : Value} (h : RCh w c b a d s) : c.ages.length ≤ 9223372036854775807 := RRow.len h.ages
def OChain (u : Value) (c : DChain) (H : SPiece) : Prop := ∃ b a d s Hb Ha Hd Hs, u = vChain c b a d s ∧ OElems eImg 49 b c.bufs Hb ∧ OInts 3 a c.ages Ha ∧ OElems eReg 43 d c.dams Hd ∧ OElems eSurf 126 s c.scene.ss Hs ∧ H = [Hs, Hd, Ha, Hb].flatten
theorem eReg_ones {l : List DRect} {d : Value} (h : d.oneCell' = true) : oneCells (eReg.cells l d) = true := ones_cons h rfl
theorem eImg_ones {i : DImg} {d : Value} (h : d.oneCell' = true) : oneCells (eImg.cells i d) = true := ones_cons rfl (ones_cons rfl (ones_cons h rfl))
section
variable {P : Program} {n : Nat} {lo : SMut} {s : World} {ops : Array Oper} {Q : Exit → Act → World → Prop} {E : SEnv} {L : SHeap} {l : List Oper}
end
def imgsLen (l : List DImg) : Nat := l.length + sumTo (fun i => (l.getD i DImg.zero).data.length) l.length
def regsLen (l : List (List DRect)) : Nat := l.length + sumTo (fun i => (l.getD i []).length) l.length
def chainLen (c : DChain) : Nat := imgsLen c.bufs + c.ages.length + regsLen c.dams + surfsLen c.scene.ss
theorem open_chain {W : World} {cs : List Value} (h : SRd Tryz.prog W 60 cs) : ∃ (c : DChain) (v : ChV), cs = cChain c v ∧ RCh W c v.b v.a v.d v.s := by
  obtain ⟨l, q⟩ := h.struct
  obtain ⟨vb, n0, rows0, g0, hr0, hel0⟩ := (SRd.sub q 0 0 54 rfl).slice (by decide)
  obtain ⟨bs, hb⟩ := open_elems eImg hr0 (fun i hi => open_img (hel0 i hi))
  obtain ⟨va, ka, g1, ha⟩ := (SRd.sub q 1 1 31 rfl).ints
  obtain ⟨vd, n2, rows2, g2, hr2, hel2⟩ := (SRd.sub q 2 2 55 rfl).slice (by decide)
  obtain ⟨ds, hd⟩ := open_elems eReg hr2 (fun i hi => open_region (hel2 i hi))
  obtain ⟨sc, vs, g3, hs⟩ := open_scene (SRd.sub q 3 3 58 rfl)
  exact ⟨⟨bs, ka, ds, sc⟩, ⟨vb, va, vd, vs⟩, cells_eq l rfl (fun k hk => match k, hk with | 0, _ => take1 g0 | 1, _ => take1 g1 | 2, _ => take1 g2 | 3, _ => take_at (j := 0) g3 rfl | 4, _ => take_at (j := 1) g3 rfl | 5, _ => take_at (j := 2) g3 rfl | 6, _ => take_at (j := 3) g3 rfl | k + 7, hk => absurd hk (by omega)), ⟨hb, ha, hd, hs⟩⟩
theorem c_toImageS (v : Value) (l : List DImg) (w : World) (hv : RS eImg w v l) (hl : imgsLen l ≤ 1048576) : SYieldsF Tryz.prog 65 #[v] (fun u H => OElems eImg 49 u l H) w := by
  obtain ⟨ds, hv⟩ := hv
  have hk := hv.row.len
  have hln : l.length ≤ imgsLen l := by unfold imgsLen; omega
  have hdn : ∀ i, i < l.length → (l.getD i DImg.zero).data.length ≤ 1048576 := fun i hi => by have := le_sumTo (fun i => (l.getD i DImg.zero).data.length) hi; unfold imgsLen at hl; omega
  (first | apply SYields.mk | apply SYieldsF.mk | skip); refine s_enter Tryz.func65 rfl Tryz.ntmps65 rfl ?_
  repeat' (first | exact rfl | (apply kO; (first | exact ov_pure rfl | (apply kOBin; (first | exact aBin)) | (apply kOCall; (first | (apply kCallB; (first | exact aBlt | exact (ov_lenR (fun w hw => hv.row.keep (hw.cells rfl)) rfl) | exact aLenR)))) | (apply kOLoad; (first | exact (ov_ldRZ (fun w hw => hv.row.keep (hw.cells rfl)) rfl rfl (by omega) rfl) | exact aLdF | exact aLdR)) | exact ov_fieldAddr rfl | (apply kOIdx; (first | exact (ov_idxR (fun w hw => hv.row.keep (hw.cells rfl)) rfl rfl (by omega)) | exact aIdx)) | exact aRest | exact aNew | exact (ov_field1 (ft := 31) rfl rfl rfl rfl))) | (refine kN ?_; (first | (refine kCall ?_; (first | (refine kWFunc ?_; (refine s_callF (fun u H => OImg u (l.getD j.1 DImg.zero) H) rfl (fun w hw => c_toImage _ _ w (RInts.keep (hv.rd _ (by omega)) (hw.cells rfl)) (hdn _ (by omega))) rfl (fun u H hu => ?_); obtain ⟨d', rfl, hu⟩ := hu; obtain ⟨ua, uc, rfl⟩ := hu.form)) | apply s_step)) | (refine kStore ?_; (first | (refine s_setRS 1 rfl rfl rfl rfl rfl (by rw [efill_length _ _ _ _ rfl _ _ (by omega)]; simp only [eImg, List.length_cons, List.length_nil]; omega) ?_) | refine s_store1 _ rfl rfl gpA rfl (by rfl) ?_ | refine s_storeS _ rfl rfl gpA rfl rfl (by rfl) ?_ | refine s_storeS _ rfl rfl gpA rfl (ones_img oiA) (by rfl) ?_)) | refine s_boxS rfl rfl (fun b hb => ?_) | refine s_allocS rfl (fun b hb => ?_) | refine s_box1 rfl rfl rfl (fun b hb => ?_) | refine s_alloc1 rfl rfl (fun b hb => ?_) | (refine kWMake ?_; (refine s_makeS rfl rfl rfl (by decide) ⟨by omega, by omega, by omega⟩ (by omega) rfl (fun b hb => ?_))) | refine s_buildSlice0 rfl (fun b hb => ?_) | refine s_buildSlice rfl rfl rfl rfl rfl (fun b hb => ?_) | apply s_step)) | (refine kG ?_; (first | refine s_gyes rfl rfl rfl ?_ | refine s_gno rfl rfl rfl rfl rfl ?_ | ((first | refine s_split_d rfl rfl (fun h => ?_) (fun h => ?_) | refine s_split_n rfl rfl (fun h => ?_) (fun h => ?_)) <;> (try (first | contradiction | (exfalso; omega)))) | refine s_split_nb rfl rfl (fun h => ?_) (fun h => ?_) | refine s_split rfl rfl (fun h => ?_) (fun h => ?_))) | refine l_then ?_ | (refine kC ?_; (first | (refine c_loopV (ι := Nat × (Nat → Value) × (Nat → SPiece)) (fun j => j.1 ≤ l.length ∧ ∀ i, i < j.1 → eImg.own (j.2.1 i) (l.getD i eImg.dflt) (j.2.2 i)) (fun j => [(4, .int .i64 (j.1 : Int))]) (fun j => [[(b, srow (efill eImg l j.2.1 [.int .i64 0, .int .i64 0, .slice none 0 0] l.length j.1) 49)], ecat j.2.2 j.1]) (fun j => l.length - j.1) (0, fun _ => undef, fun _ => []) ⟨by omega, fun i hi => by omega⟩ rfl (fun _ => rfl) ⟨rfl, trivial⟩ (fun w hw => by rw [efill_zero]; exact SSt.lone hw) (fun j hj => ?_)) | refine c_seq ?_ | refine c_regionN rfl ?_ | refine c_ret ?_ | (refine kCond ?_; (first | refine c_cond_t rfl ?_ | refine c_cond_f rfl ?_ | ((first | refine c_cond_d rfl (fun h => ?_) (fun h => ?_) | refine c_cond_n rfl (fun h => ?_) (fun h => ?_)) <;> (try (first | contradiction | (exfalso; omega)))) | refine c_cond_nb rfl (fun h => ?_) (fun h => ?_) | refine c_cond rfl (fun h => ?_) (fun h => ?_))) | refine c_block ?_ | refine c_skip ?_ | refine c_exit ?_ | refine c_regionQN rfl rfl (by decide +kernel) ?_)) | apply s_stepQ | (refine kQG ?_; (first | refine s_gyesQ rfl rfl rfl ?_ | refine s_gnoQ rfl rfl rfl rfl rfl ?_ | ((first | refine s_splitQ_d rfl rfl (fun h => ?_) (fun h => ?_) | refine s_splitQ_n rfl rfl (fun h => ?_) (fun h => ?_)) <;> (try (first | contradiction | (exfalso; omega)))) | refine s_splitQ_nb rfl rfl (fun h => ?_) (fun h => ?_) | refine s_splitQ rfl rfl (fun h => ?_) (fun h => ?_))) | refine lQ_then ?_ | refine lQ_ends ?_ | (refine kE ?_; (first | refine e_then_r ?_ | refine e_block_r ?_ | refine e_then_n ?_ | refine e_then_x ?_ | refine e_block_n ?_ | refine e_block_x ?_ | refine e_block_y rfl ?_)) | refine l_ends ?_)
  · refine e_round (j.1 + 1, upd j.2.1 j.1 (.slice ua (l.getD j.1 DImg.zero).data.length uc), upd j.2.2 j.1 H) ⟨by dsimp only; omega, fun i hi => ?_⟩ ⟨rfl, (by repeat' first | exact trivial | refine ⟨rfl, ?_⟩)⟩ (fun w hw => ?_) (by dsimp only; omega)
    · dsimp only at hi ⊢
      by_cases e : i = j.1
      · subst e; rw [upd_at, upd_at]; exact hu
      · rw [upd_old _ _ e, upd_old _ _ e]; exact hj.2 i (by omega)
    · dsimp only
      have hw := SSt.regroup hw
      rw [ecat_upd, ← efill_next eImg l j.2.1 _ _ rfl l.length j.1 (by omega) _ (fun i hi => upd_old _ _ (by omega)) (upd_at _ _ _)]
      rw [show 0 + (j.1 : Int).toNat * 3 = j.1 * eImg.k by rw [Int.toNat_natCast, Nat.zero_add]; rfl] at hw
      exact hw
  · have he : j.1 = l.length := by omega
    rw [he, efill_all]
    refine s_leave1 rfl rfl (fun w hw => ⟨_, _, rfl, ?_, hw.whole⟩)
    exact OElems.mk b (fun i hi => hj.2 i (by omega)) (by unfold maxLen; omega)
theorem c_toRegionS (v : Value) (l : List (List DRect)) (w : World) (hv : RS eReg w v l) (hl : regsLen l ≤ 1048576) : SYieldsF Tryz.prog 67 #[v] (fun u H => OElems eReg 43 u l H) w := by
  obtain ⟨ds, hv⟩ := hv
  have hk := hv.row.len
  have hln : l.length ≤ regsLen l := by unfold regsLen; omega
  have hdn : ∀ i, i < l.length → (l.getD i []).length ≤ 1048576 := fun i hi => by have := le_sumTo (fun i => (l.getD i []).length) hi; unfold regsLen at hl; omega
  (first | apply SYields.mk | apply SYieldsF.mk | skip); refine s_enter Tryz.func67 rfl Tryz.ntmps67 rfl ?_
  repeat' (first | exact rfl | (apply kO; (first | exact ov_pure rfl | (apply kOBin; (first | exact aBin)) | (apply kOCall; (first | (apply kCallB; (first | exact aBlt | exact (ov_lenR (fun w hw => hv.row.keep (hw.cells rfl)) rfl) | exact aLenR)))) | (apply kOLoad; (first | exact (ov_ldRZ (fun w hw => hv.row.keep (hw.cells rfl)) rfl rfl (by omega) rfl) | exact aLdF | exact aLdR)) | exact ov_fieldAddr rfl | (apply kOIdx; (first | exact (ov_idxR (fun w hw => hv.row.keep (hw.cells rfl)) rfl rfl (by omega)) | exact aIdx)) | exact aRest | exact aNew | exact (ov_field1 (ft := 31) rfl rfl rfl rfl))) | (refine kN ?_; (first | (refine kCall ?_; (first | (refine kWFunc ?_; (refine s_callF (fun u H => OReg u (l.getD j.1 []) H) rfl (fun w hw => c_toRegion _ _ w (eReg.keep (hv.rd _ (by omega)) (hw.cells rfl)) (hdn _ (by omega))) rfl (fun u H hu => ?_); obtain ⟨d', rfl, hu⟩ := hu; have f1 := hu.form; obtain ⟨ua, uc, rfl⟩ := f1)) | apply s_step)) | (refine kStore ?_; (first | (refine s_setRS 1 rfl rfl rfl rfl rfl (by rw [efill_length _ _ _ _ rfl _ _ (by omega)]; show _ + 1 ≤ l.length * 1; omega) ?_) | refine s_store1 _ rfl rfl gpA rfl (by rfl) ?_ | refine s_storeS _ rfl rfl gpA rfl rfl (by rfl) ?_ | refine s_storeS _ rfl rfl gpA rfl (ones_img oiA) (by rfl) ?_)) | refine s_boxS rfl rfl (fun b hb => ?_) | refine s_allocS rfl (fun b hb => ?_) | refine s_box1 rfl rfl rfl (fun b hb => ?_) | refine s_alloc1 rfl rfl (fun b hb => ?_) | (refine kWMake ?_; (refine s_makeS rfl rfl rfl (by decide) ⟨by omega, by omega, by omega⟩ (by omega) rfl (fun b hb => ?_))) | refine s_buildSlice0 rfl (fun b hb => ?_) | refine s_buildSlice rfl rfl rfl rfl rfl (fun b hb => ?_) | apply s_step)) | (refine kG ?_; (first | refine s_gyes rfl rfl rfl ?_ | refine s_gno rfl rfl rfl rfl rfl ?_ | ((first | refine s_split_d rfl rfl (fun h => ?_) (fun h => ?_) | refine s_split_n rfl rfl (fun h => ?_) (fun h => ?_)) <;> (try (first | contradiction | (exfalso; omega)))) | refine s_split_nb rfl rfl (fun h => ?_) (fun h => ?_) | refine s_split rfl rfl (fun h => ?_) (fun h => ?_))) | refine l_then ?_ | (refine kC ?_; (first | (refine c_loopV (ι := Nat × (Nat → Value) × (Nat → SPiece)) (fun j => j.1 ≤ l.length ∧ ∀ i, i < j.1 → eReg.own (j.2.1 i) (l.getD i eReg.dflt) (j.2.2 i)) (fun j => [(4, .int .i64 (j.1 : Int))]) (fun j => [[(b, srow (efill eReg l j.2.1 [.slice none 0 0] l.length j.1) 43)], ecat j.2.2 j.1]) (fun j => l.length - j.1) (0, fun _ => undef, fun _ => []) ⟨by omega, fun i hi => by omega⟩ rfl (fun _ => rfl) ⟨rfl, trivial⟩ (fun w hw => by rw [efill_zero]; exact SSt.lone hw) (fun j hj => ?_)) | refine c_seq ?_ | refine c_regionN rfl ?_ | refine c_ret ?_ | (refine kCond ?_; (first | refine c_cond_t rfl ?_ | refine c_cond_f rfl ?_ | ((first | refine c_cond_d rfl (fun h => ?_) (fun h => ?_) | refine c_cond_n rfl (fun h => ?_) (fun h => ?_)) <;> (try (first | contradiction | (exfalso; omega)))) | refine c_cond_nb rfl (fun h => ?_) (fun h => ?_) | refine c_cond rfl (fun h => ?_) (fun h => ?_))) | refine c_block ?_ | refine c_skip ?_ | refine c_exit ?_ | refine c_regionQN rfl rfl (by decide +kernel) ?_)) | apply s_stepQ | (refine kQG ?_; (first | refine s_gyesQ rfl rfl rfl ?_ | refine s_gnoQ rfl rfl rfl rfl rfl ?_ | ((first | refine s_splitQ_d rfl rfl (fun h => ?_) (fun h => ?_) | refine s_splitQ_n rfl rfl (fun h => ?_) (fun h => ?_)) <;> (try (first | contradiction | (exfalso; omega)))) | refine s_splitQ_nb rfl rfl (fun h => ?_) (fun h => ?_) | refine s_splitQ rfl rfl (fun h => ?_) (fun h => ?_))) | refine lQ_then ?_ | refine lQ_ends ?_ | (refine kE ?_; (first | refine e_then_r ?_ | refine e_block_r ?_ | refine e_then_n ?_ | refine e_then_x ?_ | refine e_block_n ?_ | refine e_block_x ?_ | refine e_block_y rfl ?_)) | refine l_ends ?_)
  · refine e_round (j.1 + 1, upd j.2.1 j.1 (.slice ua (l.getD j.1 []).length uc), upd j.2.2 j.1 H) ⟨by dsimp only; omega, fun i hi => ?_⟩ ⟨rfl, (by repeat' first | exact trivial | refine ⟨rfl, ?_⟩)⟩ (fun w hw => ?_) (by dsimp only; omega)
    · dsimp only at hi ⊢
      by_cases e : i = j.1
      · subst e; rw [upd_at, upd_at]; exact hu
      · rw [upd_old _ _ e, upd_old _ _ e]; exact hj.2 i (by omega)
    · dsimp only
      have hw := SSt.regroup hw
      rw [ecat_upd, ← efill_next eReg l j.2.1 _ _ rfl l.length j.1 (by omega) _ (fun i hi => upd_old _ _ (by omega)) (upd_at _ _ _)]
      rw [show 0 + (j.1 : Int).toNat * 1 = j.1 * eReg.k by rw [Int.toNat_natCast, Nat.zero_add]; rfl] at hw
      exact hw
  · have he : j.1 = l.length := by omega
    rw [he, efill_all]
    refine s_leave1 rfl rfl (fun w hw => ⟨_, _, rfl, ?_, hw.whole⟩)
    exact OElems.mk b (fun i hi => hj.2 i (by omega)) (by unfold maxLen; omega)
set_option maxHeartbeats 2000000 in
theorem c_toChain (c : DChain) (vb va vd vs : Value) (W : World) (hc : RCh W c vb va vd vs) (hl : chainLen c ≤ 1048576) : SYieldsF Tryz.prog 22 #[vChain c vb va vd vs] (fun u H => OChain u c H) W := by
  obtain ⟨r1, r2, r3, r4⟩ := hc
  have f1 := r1.form; have f2 := r2.form; have f3 := r3.form; have f4 := r4.form
  obtain ⟨_, _, rfl⟩ := f1
  obtain ⟨_, _, rfl⟩ := f2
  obtain ⟨_, _, rfl⟩ := f3
  obtain ⟨_, _, rfl⟩ := f4
  have hcl : chainLen c = imgsLen c.bufs + c.ages.length + regsLen c.dams + surfsLen c.scene.ss := rfl
  (first | apply SYields.mk | apply SYieldsF.mk | skip); refine s_enter Tryz.func22 rfl Tryz.ntmps22 rfl ?_
  repeat' (first | exact rfl | (apply kO; (first | exact ov_pure rfl | (apply kOBin; (first | exact aBin)) | (apply kOCall; (first | (apply kCallB; (first | exact aBlt | exact aLenR)))) | (apply kOLoad; (first | exact aLdF | exact aLdR)) | exact ov_fieldAddr rfl | (apply kOIdx; (first | exact aIdx)) | exact aRest | exact aNew | exact (ov_field1 (ft := 31) rfl rfl rfl rfl))) | (refine kN ?_; (first | (refine kCall ?_; (first | (refine kWFn 65 ?_; (refine s_callF (fun u H => OElems eImg 49 u c.bufs H) rfl (fun w hw => c_toImageS _ _ w (r1.keep (hw.cells rfl)) (by omega)) rfl (fun u1 H1 hu1 => ?_); have f1 := hu1.form; obtain ⟨_, _, rfl⟩ := f1)) | (refine kWFn 66 ?_; (refine s_callF (fun u H => OInts 3 u c.ages H) rfl (fun w hw => c_toIntS _ _ w (r2.keep (hw.cells rfl)) (by omega)) rfl (fun u2 H2 hu2 => ?_); have f1 := hu2.form; obtain ⟨_, _, rfl⟩ := f1)) | (refine kWFn 67 ?_; (refine s_callF (fun u H => OElems eReg 43 u c.dams H) rfl (fun w hw => c_toRegionS _ _ w (r3.keep (hw.cells rfl)) (by omega)) rfl (fun u3 H3 hu3 => ?_); have f1 := hu3.form; obtain ⟨_, _, rfl⟩ := f1)) | (refine kWFn 23 ?_; (refine s_callF (fun u H => OScene u c.scene H) rfl (fun w hw => c_toScene c.scene _ w (r4.keep (hw.cells rfl)) (by omega)) rfl (fun u4 H4 hu4 => ?_); obtain ⟨d4, rfl, hu4⟩ := hu4; have f1 := hu4.form; obtain ⟨_, _, rfl⟩ := f1)) | apply s_step)) | (refine kStore ?_; (first | (refine s_storeS _ rfl rfl gpA rfl (ones_cons rfl (ones_cons rfl (ones_cons rfl (ones_cons (OElems.one (by assumption)) rfl)))) (by rfl) ?_) | (refine s_store1 _ rfl rfl gpA (OElems.one (by assumption)) (by rfl) ?_) | (refine s_store1 _ rfl rfl gpA (OInts.one (by assumption)) (by rfl) ?_) | refine s_store1 _ rfl rfl gpA rfl (by rfl) ?_ | refine s_storeS _ rfl rfl gpA rfl rfl (by rfl) ?_ | refine s_storeS _ rfl rfl gpA rfl (ones_img oiA) (by rfl) ?_)) | refine s_boxS rfl rfl (fun b hb => ?_) | refine s_allocS rfl (fun b hb => ?_) | refine s_box1 rfl rfl rfl (fun b hb => ?_) | refine s_alloc1 rfl rfl (fun b hb => ?_) | refine s_buildSlice0 rfl (fun b hb => ?_) | refine s_buildSlice rfl rfl rfl rfl rfl (fun b hb => ?_) | apply s_step)) | (refine kG ?_; (first | refine s_gyes rfl rfl rfl ?_ | refine s_gno rfl rfl rfl rfl rfl ?_ | ((first | refine s_split_d rfl rfl (fun h => ?_) (fun h => ?_) | refine s_split_n rfl rfl (fun h => ?_) (fun h => ?_)) <;> (try (first | contradiction | (exfalso; omega)))) | refine s_split_nb rfl rfl (fun h => ?_) (fun h => ?_) | refine s_split rfl rfl (fun h => ?_) (fun h => ?_))) | refine l_then ?_ | (refine kC ?_; (first | refine c_seq ?_ | refine c_regionN rfl ?_ | refine c_ret ?_ | (refine kCond ?_; (first | refine c_cond_t rfl ?_ | refine c_cond_f rfl ?_ | ((first | refine c_cond_d rfl (fun h => ?_) (fun h => ?_) | refine c_cond_n rfl (fun h => ?_) (fun h => ?_)) <;> (try (first | contradiction | (exfalso; omega)))) | refine c_cond_nb rfl (fun h => ?_) (fun h => ?_) | refine c_cond rfl (fun h => ?_) (fun h => ?_))) | refine c_block ?_ | refine c_skip ?_ | refine c_exit ?_ | refine c_regionQN rfl rfl (by decide +kernel) ?_)) | apply s_stepQ | (refine kQG ?_; (first | refine s_gyesQ rfl rfl rfl ?_ | refine s_gnoQ rfl rfl rfl rfl rfl ?_ | ((first | refine s_splitQ_d rfl rfl (fun h => ?_) (fun h => ?_) | refine s_splitQ_n rfl rfl (fun h => ?_) (fun h => ?_)) <;> (try (first | contradiction | (exfalso; omega)))) | refine s_splitQ_nb rfl rfl (fun h => ?_) (fun h => ?_) | refine s_splitQ rfl rfl (fun h => ?_) (fun h => ?_))) | refine lQ_then ?_ | refine lQ_ends ?_ | (refine kE ?_; (first | refine e_then_r ?_ | refine e_block_r ?_ | refine e_then_n ?_ | refine e_then_x ?_ | refine e_block_n ?_ | refine e_block_x ?_ | refine e_block_y rfl ?_)) | refine l_ends ?_)
  all_goals (refine kE ?_; refine s_leaveSF rfl rfl rfl fwA (fun w hw => ?_))
  all_goals exact ⟨_, _, rfl, ⟨_, _, _, _, H1, H2, H3, H4, rfl, hu1, hu2, hu3, hu4, rfl⟩, hw.toFreshL (by repeat' first | exact List.nil_sublist _ | exact List.Sublist.slnil | refine List.Sublist.cons_cons _ ?_ | refine List.Sublist.cons _ ?_)⟩
theorem c_szImageS (v : Value) (l : List DImg) (left : Int) (w : World) (hv : RS eImg w v l) (hl : 0 ≤ left ∧ left ≤ 1048576) : SYields Tryz.prog 57 #[v, .int .i64 left] (.int .i64 (szI (imgsLen l) left)) w := by
  obtain ⟨ds, hv⟩ := hv
  have hk := hv.row.len
  have hm := fun j => sumTo_mono (fun i => (l.getD i DImg.zero).data.length) (i := j) (n := l.length)
  have hs := fun j => (show sumTo (fun i => (l.getD i DImg.zero).data.length) (j + 1) = sumTo (fun i => (l.getD i DImg.zero).data.length) j + (l.getD j DImg.zero).data.length from rfl)
  (first | apply SYields.mk | apply SYieldsF.mk | skip); refine s_enter Tryz.func57 rfl Tryz.ntmps57 rfl ?_
  repeat' (first | exact rfl | (apply kO; (first | exact ov_pure rfl | (apply kOBin; (first | exact aBin)) | (apply kOCall; (first | (apply kCallF; (first | exact (ov_call rfl (fun w hw => c_szImage (l.getD j DImg.zero) _ _ w (RInts.keep (hv.rd _ (by omega)) (hw.cells rfl)) (by omega))))) | (apply kCallB; (first | exact aBlt | exact aLenR)))) | (apply kOLoad; (first | exact aLdF | exact aLdR)) | exact ov_fieldAddr rfl | (apply kOIdx; (first | exact aIdx)) | exact aRest | exact aNew | exact (ov_field1 (ft := 31) rfl rfl rfl rfl))) | (refine kN ?_; (first | (refine kStore ?_; (first | refine s_store1 _ rfl rfl gpA rfl (by rfl) ?_ | refine s_storeS _ rfl rfl gpA rfl rfl (by rfl) ?_ | refine s_storeS _ rfl rfl gpA rfl (ones_img oiA) (by rfl) ?_)) | refine s_boxS rfl rfl (fun b hb => ?_) | refine s_allocS rfl (fun b hb => ?_) | refine s_box1 rfl rfl rfl (fun b hb => ?_) | refine s_alloc1 rfl rfl (fun b hb => ?_) | refine s_buildSlice0 rfl (fun b hb => ?_) | refine s_buildSlice rfl rfl rfl rfl rfl (fun b hb => ?_) | apply s_step)) | (refine kG ?_; (first | refine s_gyes rfl rfl rfl ?_ | refine s_gno rfl rfl rfl rfl rfl ?_ | ((first | refine s_split_d rfl rfl (fun h => ?_) (fun h => ?_) | refine s_split_n rfl rfl (fun h => ?_) (fun h => ?_)) <;> (try (first | contradiction | (exfalso; omega)))) | refine s_split_nb rfl rfl (fun h => ?_) (fun h => ?_) | refine s_split rfl rfl (fun h => ?_) (fun h => ?_))) | refine l_then ?_ | (refine kC ?_; (first | (refine c_loopV (ι := Nat) (fun j => j ≤ l.length ∧ 0 ≤ left - (l.length + sumTo (fun i => (l.getD i DImg.zero).data.length) j : Nat)) (fun j => [(1, .int .i64 (left - (l.length + sumTo (fun i => (l.getD i DImg.zero).data.length) j : Nat))), (5, .int .i64 (j : Int))]) (fun _ => []) (fun j => l.length - j) 0 ⟨by omega, by simp [sumTo]; omega⟩ rfl (fun _ => rfl) ⟨slook_to rfl (vint_to (by simp [sumTo])), rfl, trivial⟩ (fun w hw => hw) (fun j hj => ?_)) | refine c_seq ?_ | refine c_regionN rfl ?_ | refine c_ret ?_ | (refine kCond ?_; (first | refine c_cond_t rfl ?_ | refine c_cond_f rfl ?_ | ((first | refine c_cond_d rfl (fun h => ?_) (fun h => ?_) | refine c_cond_n rfl (fun h => ?_) (fun h => ?_)) <;> (try (first | contradiction | (exfalso; omega)))) | refine c_cond_nb rfl (fun h => ?_) (fun h => ?_) | refine c_cond rfl (fun h => ?_) (fun h => ?_))) | refine c_block ?_ | refine c_skip ?_ | refine c_exit ?_ | refine c_regionQN rfl rfl (by decide +kernel) ?_)) | apply s_stepQ | (refine kQG ?_; (first | refine s_gyesQ rfl rfl rfl ?_ | refine s_gnoQ rfl rfl rfl rfl rfl ?_ | ((first | refine s_splitQ_d rfl rfl (fun h => ?_) (fun h => ?_) | refine s_splitQ_n rfl rfl (fun h => ?_) (fun h => ?_)) <;> (try (first | contradiction | (exfalso; omega)))) | refine s_splitQ_nb rfl rfl (fun h => ?_) (fun h => ?_) | refine s_splitQ rfl rfl (fun h => ?_) (fun h => ?_))) | refine lQ_then ?_ | refine lQ_ends ?_ | (refine kE ?_; (first | refine e_then_r ?_ | refine e_block_r ?_ | refine e_then_n ?_ | refine e_then_x ?_ | refine e_block_n ?_ | refine e_block_x ?_ | refine e_block_y rfl ?_)) | refine l_ends ?_)
  all_goals try simp only [Int.toNat_natCast, eImg_dflt] at *
  · exact s_leave1 rfl rfl (fun w hw => ⟨ret_int (by unfold szI imgsLen; rw [if_pos (by omega)]), hw.below⟩)
  · have h1 := hs j
    have h2 := hm (j + 1) (by omega)
    exact s_leave1 rfl rfl (fun w hw => ⟨ret_int (by unfold szI at *; unfold imgsLen; rw [if_pos (by split at h <;> omega)]), hw.below⟩)
  · have h1 := hs j
    have h2 := hm (j + 1) (by omega)
    have h3 : szI (l.getD j DImg.zero).data.length (left - (l.length + sumTo (fun i => (l.getD i DImg.zero).data.length) j : Nat)) = left - (l.length + sumTo (fun i => (l.getD i DImg.zero).data.length) (j + 1) : Nat) := by
      unfold szI at *; split at h
      · omega
      · rw [if_neg (by assumption)]; omega
    exact e_round (j + 1) ⟨by omega, by rw [h3] at h; omega⟩ ⟨slook_to rfl (vint_to h3), rfl, (by repeat' first | exact trivial | refine ⟨rfl, ?_⟩)⟩ (fun w hw => hw) (by omega)
  · obtain rfl : j = l.length := by omega
    exact s_leave1 rfl rfl (fun w hw => ⟨ret_int (by unfold szI imgsLen; rw [if_neg (by omega)]), hw.below⟩)
theorem c_szRegionS (v : Value) (l : List (List DRect)) (left : Int) (w : World) (hv : RS eReg w v l) (hl : 0 ≤ left ∧ left ≤ 1048576) : SYields Tryz.prog 59 #[v, .int .i64 left] (.int .i64 (szI (regsLen l) left)) w := by
  obtain ⟨ds, hv⟩ := hv
  have hk := hv.row.len
  have hm := fun j => sumTo_mono (fun i => (l.getD i []).length) (i := j) (n := l.length)
  have hs := fun j => (show sumTo (fun i => (l.getD i []).length) (j + 1) = sumTo (fun i => (l.getD i []).length) j + (l.getD j []).length from rfl)
  (first | apply SYields.mk | apply SYieldsF.mk | skip); refine s_enter Tryz.func59 rfl Tryz.ntmps59 rfl ?_
  repeat' (first | exact rfl | (apply kO; (first | exact ov_pure rfl | (apply kOBin; (first | exact aBin)) | (apply kOCall; (first | (apply kCallF; (first | exact (ov_call rfl (fun w hw => c_szRegion _ (l.getD j []) _ w (eReg.keep (hv.rd _ (by omega)) (hw.cells rfl)) (by omega))))) | (apply kCallB; (first | exact aBlt | exact aLenR)))) | (apply kOLoad; (first | exact aLdF | exact aLdR)) | exact ov_fieldAddr rfl | (apply kOIdx; (first | exact aIdx)) | exact aRest | exact aNew | exact (ov_field1 (ft := 31) rfl rfl rfl rfl))) | (refine kN ?_; (first | (refine kStore ?_; (first | refine s_store1 _ rfl rfl gpA rfl (by rfl) ?_ | refine s_storeS _ rfl rfl gpA rfl rfl (by rfl) ?_ | refine s_storeS _ rfl rfl gpA rfl (ones_img oiA) (by rfl) ?_)) | refine s_boxS rfl rfl (fun b hb => ?_) | refine s_allocS rfl (fun b hb => ?_) | refine s_box1 rfl rfl rfl (fun b hb => ?_) | refine s_alloc1 rfl rfl (fun b hb => ?_) | refine s_buildSlice0 rfl (fun b hb => ?_) | refine s_buildSlice rfl rfl rfl rfl rfl (fun b hb => ?_) | apply s_step)) | (refine kG ?_; (first | refine s_gyes rfl rfl rfl ?_ | refine s_gno rfl rfl rfl rfl rfl ?_ | ((first | refine s_split_d rfl rfl (fun h => ?_) (fun h => ?_) | refine s_split_n rfl rfl (fun h => ?_) (fun h => ?_)) <;> (try (first | contradiction | (exfalso; omega)))) | refine s_split_nb rfl rfl (fun h => ?_) (fun h => ?_) | refine s_split rfl rfl (fun h => ?_) (fun h => ?_))) | refine l_then ?_ | (refine kC ?_; (first | (refine c_loopV (ι := Nat) (fun j => j ≤ l.length ∧ 0 ≤ left - (l.length + sumTo (fun i => (l.getD i []).length) j : Nat)) (fun j => [(1, .int .i64 (left - (l.length + sumTo (fun i => (l.getD i []).length) j : Nat))), (5, .int .i64 (j : Int))]) (fun _ => []) (fun j => l.length - j) 0 ⟨by omega, by simp [sumTo]; omega⟩ rfl (fun _ => rfl) ⟨slook_to rfl (vint_to (by simp [sumTo])), rfl, trivial⟩ (fun w hw => hw) (fun j hj => ?_)) | refine c_seq ?_ | refine c_regionN rfl ?_ | refine c_ret ?_ | (refine kCond ?_; (first | refine c_cond_t rfl ?_ | refine c_cond_f rfl ?_ | ((first | refine c_cond_d rfl (fun h => ?_) (fun h => ?_) | refine c_cond_n rfl (fun h => ?_) (fun h => ?_)) <;> (try (first | contradiction | (exfalso; omega)))) | refine c_cond_nb rfl (fun h => ?_) (fun h => ?_) | refine c_cond rfl (fun h => ?_) (fun h => ?_))) | refine c_block ?_ | refine c_skip ?_ | refine c_exit ?_ | refine c_regionQN rfl rfl (by decide +kernel) ?_)) | apply s_stepQ | (refine kQG ?_; (first | refine s_gyesQ rfl rfl rfl ?_ | refine s_gnoQ rfl rfl rfl rfl rfl ?_ | ((first | refine s_splitQ_d rfl rfl (fun h => ?_) (fun h => ?_) | refine s_splitQ_n rfl rfl (fun h => ?_) (fun h => ?_)) <;> (try (first | contradiction | (exfalso; omega)))) | refine s_splitQ_nb rfl rfl (fun h => ?_) (fun h => ?_) | refine s_splitQ rfl rfl (fun h => ?_) (fun h => ?_))) | refine lQ_then ?_ | refine lQ_ends ?_ | (refine kE ?_; (first | refine e_then_r ?_ | refine e_block_r ?_ | refine e_then_n ?_ | refine e_then_x ?_ | refine e_block_n ?_ | refine e_block_x ?_ | refine e_block_y rfl ?_)) | refine l_ends ?_)
  all_goals try simp only [Int.toNat_natCast, eReg_dflt] at *
  · exact s_leave1 rfl rfl (fun w hw => ⟨ret_int (by unfold szI regsLen; rw [if_pos (by omega)]), hw.below⟩)
  · have h1 := hs j
    have h2 := hm (j + 1) (by omega)
    exact s_leave1 rfl rfl (fun w hw => ⟨ret_int (by unfold szI at *; unfold regsLen; rw [if_pos (by split at h <;> omega)]), hw.below⟩)
  · have h1 := hs j
    have h2 := hm (j + 1) (by omega)
    have h3 : szI (l.getD j []).length (left - (l.length + sumTo (fun i => (l.getD i []).length) j : Nat)) = left - (l.length + sumTo (fun i => (l.getD i []).length) (j + 1) : Nat) := by
      unfold szI at *; split at h
      · omega
      · rw [if_neg (by assumption)]; omega
    exact e_round (j + 1) ⟨by omega, by rw [h3] at h; omega⟩ ⟨slook_to rfl (vint_to h3), rfl, (by repeat' first | exact trivial | refine ⟨rfl, ?_⟩)⟩ (fun w hw => hw) (by omega)
  · obtain rfl : j = l.length := by omega
    exact s_leave1 rfl rfl (fun w hw => ⟨ret_int (by unfold szI regsLen; rw [if_neg (by omega)]), hw.below⟩)
theorem c_szChain (c : DChain) (vb va vd vs : Value) (left : Int) (W : World) (hc : RCh W c vb va vd vs) (hl : 0 ≤ left ∧ left ≤ 1048576) : SYields Tryz.prog 19 #[vChain c vb va vd vs, .int .i64 left] (.int .i64 (szI (chainLen c) left)) W := by
  obtain ⟨r1, r2, r3, r4⟩ := hc
  have z1 := szI_or (imgsLen c.bufs) left
  have z2 := szI_or c.ages.length (szI (imgsLen c.bufs) left)
  have z3 := szI_or (regsLen c.dams) (szI c.ages.length (szI (imgsLen c.bufs) left))
  have z4 := szI_or (surfsLen c.scene.ss) (szI (regsLen c.dams) (szI c.ages.length (szI (imgsLen c.bufs) left)))
  have z5 := szI_or (chainLen c) left
  have hcl : chainLen c = imgsLen c.bufs + c.ages.length + regsLen c.dams + surfsLen c.scene.ss := rfl
  (first | apply SYields.mk | apply SYieldsF.mk | skip); refine s_enter Tryz.func19 rfl Tryz.ntmps19 rfl ?_
  repeat' (first | exact rfl | (apply kO; (first | exact ov_pure rfl | (apply kOBin; (first | exact aBin)) | (apply kOCall; (first | (apply kCallF; (first | exact (ov_call rfl (fun w hw => c_szImageS _ c.bufs _ w (r1.keep (hw.cells rfl)) (by omega))) | exact (ov_call rfl (fun w hw => c_szIntS _ c.ages _ w (r2.keep (hw.cells rfl)) (by omega))) | exact (ov_call rfl (fun w hw => c_szRegionS _ c.dams _ w (r3.keep (hw.cells rfl)) (by omega))) | exact (ov_call rfl (fun w hw => c_szScene c.scene _ _ w (r4.keep (hw.cells rfl)) (by omega))))) | (apply kCallB; (first | exact aBlt | exact aLenR)))) | (apply kOLoad; (first | exact aLdF | exact aLdR)) | exact ov_fieldAddr rfl | (apply kOIdx; (first | exact aIdx)) | exact aRest | exact aNew | exact (ov_field1 (ft := 31) rfl rfl rfl rfl))) | (refine kN ?_; (first | (refine kStore ?_; (first | refine s_store1 _ rfl rfl gpA rfl (by rfl) ?_ | refine s_storeS _ rfl rfl gpA rfl rfl (by rfl) ?_ | refine s_storeS _ rfl rfl gpA rfl (ones_img oiA) (by rfl) ?_)) | refine s_boxS rfl rfl (fun b hb => ?_) | refine s_allocS rfl (fun b hb => ?_) | refine s_box1 rfl rfl rfl (fun b hb => ?_) | refine s_alloc1 rfl rfl (fun b hb => ?_) | refine s_buildSlice0 rfl (fun b hb => ?_) | refine s_buildSlice rfl rfl rfl rfl rfl (fun b hb => ?_) | apply s_step)) | (refine kG ?_; (first | refine s_gyes rfl rfl rfl ?_ | refine s_gno rfl rfl rfl rfl rfl ?_ | ((first | refine s_split_d rfl rfl (fun h => ?_) (fun h => ?_) | refine s_split_n rfl rfl (fun h => ?_) (fun h => ?_)) <;> (try (first | contradiction | (exfalso; omega)))) | refine s_split_nb rfl rfl (fun h => ?_) (fun h => ?_) | refine s_split rfl rfl (fun h => ?_) (fun h => ?_))) | refine l_then ?_ | (refine kC ?_; (first | refine c_seq ?_ | refine c_regionN rfl ?_ | refine c_ret ?_ | (refine kCond ?_; (first | refine c_cond_t rfl ?_ | refine c_cond_f rfl ?_ | ((first | refine c_cond_d rfl (fun h => ?_) (fun h => ?_) | refine c_cond_n rfl (fun h => ?_) (fun h => ?_)) <;> (try (first | contradiction | (exfalso; omega)))) | refine c_cond_nb rfl (fun h => ?_) (fun h => ?_) | refine c_cond rfl (fun h => ?_) (fun h => ?_))) | refine c_block ?_ | refine c_skip ?_ | refine c_exit ?_ | refine c_regionQN rfl rfl (by decide +kernel) ?_)) | apply s_stepQ | (refine kQG ?_; (first | refine s_gyesQ rfl rfl rfl ?_ | refine s_gnoQ rfl rfl rfl rfl rfl ?_ | ((first | refine s_splitQ_d rfl rfl (fun h => ?_) (fun h => ?_) | refine s_splitQ_n rfl rfl (fun h => ?_) (fun h => ?_)) <;> (try (first | contradiction | (exfalso; omega)))) | refine s_splitQ_nb rfl rfl (fun h => ?_) (fun h => ?_) | refine s_splitQ rfl rfl (fun h => ?_) (fun h => ?_))) | refine lQ_then ?_ | refine lQ_ends ?_ | (refine kE ?_; (first | refine e_then_r ?_ | refine e_block_r ?_ | refine e_then_n ?_ | refine e_then_x ?_ | refine e_block_n ?_ | refine e_block_x ?_ | refine e_block_y rfl ?_)) | refine l_ends ?_)
  all_goals refine s_leave1 rfl rfl (fun w hw => ⟨?_, hw.below⟩)
  all_goals (refine ret_int ?_; omega)
theorem c_eqImageS (u v : Value) (k l : List DImg) (w : World) (hu : RS eImg w u k) (hv : RS eImg w v l) : SYields Tryz.prog 70 #[u, v] (.bool (decide (k = l))) w := by
  obtain ⟨ds, hu⟩ := hu
  obtain ⟨es, hv⟩ := hv
  have hk := hu.row.len
  have hl := hv.row.len
  (first | apply SYields.mk | apply SYieldsF.mk | skip); refine s_enter Tryz.func70 rfl Tryz.ntmps70 rfl ?_
  repeat' (first | exact rfl | (apply kO; (first | exact ov_pure rfl | (apply kOBin; (first | exact aBin)) | (apply kOCall; (first | (apply kCallF; (first | exact (ov_call rfl (fun w hw => c_eqImage (k.getD j DImg.zero) (l.getD j DImg.zero) _ _ w (RInts.keep (hu.rd _ (by omega)) (hw.cells rfl)) (RInts.keep (hv.rd _ (by omega)) (hw.cells rfl)))))) | (apply kCallB; (first | exact aBlt | exact (ov_lenR (fun w hw => hu.row.keep (hw.cells rfl)) rfl) | exact (ov_lenR (fun w hw => hv.row.keep (hw.cells rfl)) rfl) | exact aLenR)))) | (apply kOLoad; (first | exact (ov_ldRZ (fun w hw => hu.row.keep (hw.cells rfl)) rfl rfl (by omega) rfl) | exact (ov_ldRZ (fun w hw => hv.row.keep (hw.cells rfl)) rfl rfl (by omega) rfl) | exact aLdF | exact aLdR)) | exact ov_fieldAddr rfl | (apply kOIdx; (first | exact (ov_idxR (fun w hw => hu.row.keep (hw.cells rfl)) rfl rfl (by omega)) | exact (ov_idxR (fun w hw => hv.row.keep (hw.cells rfl)) rfl rfl (by omega)) | exact aIdx)) | exact aRest | exact aNew | exact (ov_field1 (ft := 31) rfl rfl rfl rfl))) | (refine kN ?_; (first | (refine kStore ?_; (first | refine s_store1 _ rfl rfl gpA rfl (by rfl) ?_ | refine s_storeS _ rfl rfl gpA rfl rfl (by rfl) ?_ | refine s_storeS _ rfl rfl gpA rfl (ones_img oiA) (by rfl) ?_)) | refine s_boxS rfl rfl (fun b hb => ?_) | refine s_allocS rfl (fun b hb => ?_) | refine s_box1 rfl rfl rfl (fun b hb => ?_) | refine s_alloc1 rfl rfl (fun b hb => ?_) | refine s_buildSlice0 rfl (fun b hb => ?_) | refine s_buildSlice rfl rfl rfl rfl rfl (fun b hb => ?_) | apply s_step)) | (refine kG ?_; (first | refine s_gyes rfl rfl rfl ?_ | refine s_gno rfl rfl rfl rfl rfl ?_ | ((first | refine s_split_d rfl rfl (fun h => ?_) (fun h => ?_) | refine s_split_n rfl rfl (fun h => ?_) (fun h => ?_)) <;> (try (first | contradiction | (exfalso; omega)))) | refine s_split_nb rfl rfl (fun h => ?_) (fun h => ?_) | refine s_split rfl rfl (fun h => ?_) (fun h => ?_))) | refine l_then ?_ | (refine kC ?_; (first | (refine c_loopV (ι := Nat) (fun j => j ≤ k.length ∧ eqTo k l DImg.zero j) (fun j => [(5, .int .i64 (j : Int))]) (fun _ => []) (fun j => k.length - j) 0 ⟨by omega, eqTo_zero _ _ _⟩ rfl (fun _ => rfl) ⟨rfl, trivial⟩ (fun w hw => hw) (fun j hj => ?_)) | refine c_seq ?_ | refine c_regionN rfl ?_ | refine c_ret ?_ | (refine kCond ?_; (first | refine c_cond_t rfl ?_ | refine c_cond_f rfl ?_ | ((first | refine c_cond_d rfl (fun h => ?_) (fun h => ?_) | refine c_cond_n rfl (fun h => ?_) (fun h => ?_)) <;> (try (first | contradiction | (exfalso; omega)))) | refine c_cond_nb rfl (fun h => ?_) (fun h => ?_) | refine c_cond rfl (fun h => ?_) (fun h => ?_))) | refine c_block ?_ | refine c_skip ?_ | refine c_exit ?_ | refine c_regionQN rfl rfl (by decide +kernel) ?_)) | apply s_stepQ | (refine kQG ?_; (first | refine s_gyesQ rfl rfl rfl ?_ | refine s_gnoQ rfl rfl rfl rfl rfl ?_ | ((first | refine s_splitQ_d rfl rfl (fun h => ?_) (fun h => ?_) | refine s_splitQ_n rfl rfl (fun h => ?_) (fun h => ?_)) <;> (try (first | contradiction | (exfalso; omega)))) | refine s_splitQ_nb rfl rfl (fun h => ?_) (fun h => ?_) | refine s_splitQ rfl rfl (fun h => ?_) (fun h => ?_))) | refine lQ_then ?_ | refine lQ_ends ?_ | (refine kE ?_; (first | refine e_then_r ?_ | refine e_block_r ?_ | refine e_then_n ?_ | refine e_then_x ?_ | refine e_block_n ?_ | refine e_block_x ?_ | refine e_block_y rfl ?_)) | refine l_ends ?_)
  all_goals try simp only [Int.toNat_natCast, eImg_dflt] at *
  · exact s_leave1 rfl rfl (fun w hw => ⟨ret_false (ne_of_len (by omega)), hw.below⟩)
  · exact s_leave1 rfl rfl (fun w hw => ⟨ret_false (fun e => by subst e; contradiction), hw.below⟩)
  · exact e_round (j + 1) ⟨by omega, eqTo_next hj.2 (by assumption)⟩ ⟨rfl, (by repeat' first | exact trivial | refine ⟨rfl, ?_⟩)⟩ (fun w hw => hw) (by omega)
  · exact s_leave1 rfl rfl (fun w hw => ⟨ret_true (list_eq_of_getD DImg.zero (by omega) (fun i hi => hj.2 i (by omega))), hw.below⟩)
theorem c_eqRegionS (u v : Value) (k l : List (List DRect)) (w : World) (hu : RS eReg w u k) (hv : RS eReg w v l) : SYields Tryz.prog 72 #[u, v] (.bool (decide (k = l))) w := by
  obtain ⟨ds, hu⟩ := hu
  obtain ⟨es, hv⟩ := hv
  have hk := hu.row.len
  have hl := hv.row.len
  (first | apply SYields.mk | apply SYieldsF.mk | skip); refine s_enter Tryz.func72 rfl Tryz.ntmps72 rfl ?_
  repeat' (first | exact rfl | (apply kO; (first | exact ov_pure rfl | (apply kOBin; (first | exact aBin)) | (apply kOCall; (first | (apply kCallF; (first | exact (ov_call rfl (fun w hw => c_eqRegion _ _ (k.getD j []) (l.getD j []) w (eReg.keep (hu.rd _ (by omega)) (hw.cells rfl)) (eReg.keep (hv.rd _ (by omega)) (hw.cells rfl)))))) | (apply kCallB; (first | exact aBlt | exact (ov_lenR (fun w hw => hu.row.keep (hw.cells rfl)) rfl) | exact (ov_lenR (fun w hw => hv.row.keep (hw.cells rfl)) rfl) | exact aLenR)))) | (apply kOLoad; (first | exact (ov_ldRZ (fun w hw => hu.row.keep (hw.cells rfl)) rfl rfl (by omega) rfl) | exact (ov_ldRZ (fun w hw => hv.row.keep (hw.cells rfl)) rfl rfl (by omega) rfl) | exact aLdF | exact aLdR)) | exact ov_fieldAddr rfl | (apply kOIdx; (first | exact (ov_idxR (fun w hw => hu.row.keep (hw.cells rfl)) rfl rfl (by omega)) | exact (ov_idxR (fun w hw => hv.row.keep (hw.cells rfl)) rfl rfl (by omega)) | exact aIdx)) | exact aRest | exact aNew | exact (ov_field1 (ft := 31) rfl rfl rfl rfl))) | (refine kN ?_; (first | (refine kStore ?_; (first | refine s_store1 _ rfl rfl gpA rfl (by rfl) ?_ | refine s_storeS _ rfl rfl gpA rfl rfl (by rfl) ?_ | refine s_storeS _ rfl rfl gpA rfl (ones_img oiA) (by rfl) ?_)) | refine s_boxS rfl rfl (fun b hb => ?_) | refine s_allocS rfl (fun b hb => ?_) | refine s_box1 rfl rfl rfl (fun b hb => ?_) | refine s_alloc1 rfl rfl (fun b hb => ?_) | refine s_buildSlice0 rfl (fun b hb => ?_) | refine s_buildSlice rfl rfl rfl rfl rfl (fun b hb => ?_) | apply s_step)) | (refine kG ?_; (first | refine s_gyes rfl rfl rfl ?_ | refine s_gno rfl rfl rfl rfl rfl ?_ | ((first | refine s_split_d rfl rfl (fun h => ?_) (fun h => ?_) | refine s_split_n rfl rfl (fun h => ?_) (fun h => ?_)) <;> (try (first | contradiction | (exfalso; omega)))) | refine s_split_nb rfl rfl (fun h => ?_) (fun h => ?_) | refine s_split rfl rfl (fun h => ?_) (fun h => ?_))) | refine l_then ?_ | (refine kC ?_; (first | (refine c_loopV (ι := Nat) (fun j => j ≤ k.length ∧ eqTo k l [] j) (fun j => [(5, .int .i64 (j : Int))]) (fun _ => []) (fun j => k.length - j) 0 ⟨by omega, eqTo_zero _ _ _⟩ rfl (fun _ => rfl) ⟨rfl, trivial⟩ (fun w hw => hw) (fun j hj => ?_)) | refine c_seq ?_ | refine c_regionN rfl ?_ | refine c_ret ?_ | (refine kCond ?_; (first | refine c_cond_t rfl ?_ | refine c_cond_f rfl ?_ | ((first | refine c_cond_d rfl (fun h => ?_) (fun h => ?_) | refine c_cond_n rfl (fun h => ?_) (fun h => ?_)) <;> (try (first | contradiction | (exfalso; omega)))) | refine c_cond_nb rfl (fun h => ?_) (fun h => ?_) | refine c_cond rfl (fun h => ?_) (fun h => ?_))) | refine c_block ?_ | refine c_skip ?_ | refine c_exit ?_ | refine c_regionQN rfl rfl (by decide +kernel) ?_)) | apply s_stepQ | (refine kQG ?_; (first | refine s_gyesQ rfl rfl rfl ?_ | refine s_gnoQ rfl rfl rfl rfl rfl ?_ | ((first | refine s_splitQ_d rfl rfl (fun h => ?_) (fun h => ?_) | refine s_splitQ_n rfl rfl (fun h => ?_) (fun h => ?_)) <;> (try (first | contradiction | (exfalso; omega)))) | refine s_splitQ_nb rfl rfl (fun h => ?_) (fun h => ?_) | refine s_splitQ rfl rfl (fun h => ?_) (fun h => ?_))) | refine lQ_then ?_ | refine lQ_ends ?_ | (refine kE ?_; (first | refine e_then_r ?_ | refine e_block_r ?_ | refine e_then_n ?_ | refine e_then_x ?_ | refine e_block_n ?_ | refine e_block_x ?_ | refine e_block_y rfl ?_)) | refine l_ends ?_)
  all_goals try simp only [Int.toNat_natCast, eReg_dflt] at *
  · exact s_leave1 rfl rfl (fun w hw => ⟨ret_false (ne_of_len (by omega)), hw.below⟩)
  · exact s_leave1 rfl rfl (fun w hw => ⟨ret_false (fun e => by subst e; contradiction), hw.below⟩)
  · exact e_round (j + 1) ⟨by omega, eqTo_next hj.2 (by assumption)⟩ ⟨rfl, (by repeat' first | exact trivial | refine ⟨rfl, ?_⟩)⟩ (fun w hw => hw) (by omega)
  · exact s_leave1 rfl rfl (fun w hw => ⟨ret_true (list_eq_of_getD [] (by omega) (fun i hi => hj.2 i (by omega))), hw.below⟩)
theorem DChain.eq {a b : DChain} (h1 : a.bufs = b.bufs) (h2 : a.ages = b.ages) (h3 : a.dams = b.dams) (h4 : a.scene = b.scene) : a = b := by cases a; cases b; simp_all
theorem c_eqChain (c e : DChain) (b1 a1 d1 s1 b2 a2 d2 s2 : Value) (W : World) (h1 : RCh W c b1 a1 d1 s1) (h2 : RCh W e b2 a2 d2 s2) : SYields Tryz.prog 25 #[vChain c b1 a1 d1 s1, vChain e b2 a2 d2 s2] (.bool (decide (c = e))) W := by
  obtain ⟨p1, p2, p3, p4⟩ := h1
  obtain ⟨q1, q2, q3, q4⟩ := h2
  (first | apply SYields.mk | apply SYieldsF.mk | skip); refine s_enter Tryz.func25 rfl Tryz.ntmps25 rfl ?_
  repeat' (first | exact rfl | (apply kO; (first | exact ov_pure rfl | (apply kOBin; (first | exact aBin)) | (apply kOCall; (first | (apply kCallF; (first | exact (ov_call rfl (fun w hw => c_eqImageS _ _ c.bufs e.bufs w (p1.keep (hw.cells rfl)) (q1.keep (hw.cells rfl)))) | exact (ov_call rfl (fun w hw => c_eqIntS _ _ c.ages e.ages w (p2.keep (hw.cells rfl)) (q2.keep (hw.cells rfl)))) | exact (ov_call rfl (fun w hw => c_eqRegionS _ _ c.dams e.dams w (p3.keep (hw.cells rfl)) (q3.keep (hw.cells rfl)))) | exact (ov_call rfl (fun w hw => c_eqScene c.scene e.scene _ _ w (p4.keep (hw.cells rfl)) (q4.keep (hw.cells rfl)))))) | (apply kCallB; (first | exact aBlt | exact aLenR)))) | (apply kOLoad; (first | exact aLdF | exact aLdR)) | exact ov_fieldAddr rfl | (apply kOIdx; (first | exact aIdx)) | exact aRest | exact aNew | exact (ov_field1 (ft := 31) rfl rfl rfl rfl))) | (refine kN ?_; (first | (refine kStore ?_; (first | refine s_store1 _ rfl rfl gpA rfl (by rfl) ?_ | refine s_storeS _ rfl rfl gpA rfl rfl (by rfl) ?_ | refine s_storeS _ rfl rfl gpA rfl (ones_img oiA) (by rfl) ?_)) | refine s_boxS rfl rfl (fun b hb => ?_) | refine s_allocS rfl (fun b hb => ?_) | refine s_box1 rfl rfl rfl (fun b hb => ?_) | refine s_alloc1 rfl rfl (fun b hb => ?_) | refine s_buildSlice0 rfl (fun b hb => ?_) | refine s_buildSlice rfl rfl rfl rfl rfl (fun b hb => ?_) | apply s_step)) | (refine kG ?_; (first | refine s_gyes rfl rfl rfl ?_ | refine s_gno rfl rfl rfl rfl rfl ?_ | ((first | refine s_split_d rfl rfl (fun h => ?_) (fun h => ?_) | refine s_split_n rfl rfl (fun h => ?_) (fun h => ?_)) <;> (try (first | contradiction | (exfalso; omega)))) | refine s_split_nb rfl rfl (fun h => ?_) (fun h => ?_) | refine s_split rfl rfl (fun h => ?_) (fun h => ?_))) | refine l_then ?_ | (refine kC ?_; (first | refine c_seq ?_ | refine c_regionN rfl ?_ | refine c_ret ?_ | (refine kCond ?_; (first | refine c_cond_t rfl ?_ | refine c_cond_f rfl ?_ | ((first | refine c_cond_d rfl (fun h => ?_) (fun h => ?_) | refine c_cond_n rfl (fun h => ?_) (fun h => ?_)) <;> (try (first | contradiction | (exfalso; omega)))) | refine c_cond_nb rfl (fun h => ?_) (fun h => ?_) | refine c_cond rfl (fun h => ?_) (fun h => ?_))) | refine c_block ?_ | refine c_skip ?_ | refine c_exit ?_ | refine c_regionQN rfl rfl (by decide +kernel) ?_)) | apply s_stepQ | (refine kQG ?_; (first | refine s_gyesQ rfl rfl rfl ?_ | refine s_gnoQ rfl rfl rfl rfl rfl ?_ | ((first | refine s_splitQ_d rfl rfl (fun h => ?_) (fun h => ?_) | refine s_splitQ_n rfl rfl (fun h => ?_) (fun h => ?_)) <;> (try (first | contradiction | (exfalso; omega)))) | refine s_splitQ_nb rfl rfl (fun h => ?_) (fun h => ?_) | refine s_splitQ rfl rfl (fun h => ?_) (fun h => ?_))) | refine lQ_then ?_ | refine lQ_ends ?_ | (refine kE ?_; (first | refine e_then_r ?_ | refine e_block_r ?_ | refine e_then_n ?_ | refine e_then_x ?_ | refine e_block_n ?_ | refine e_block_x ?_ | refine e_block_y rfl ?_)) | refine l_ends ?_)
  all_goals refine s_leave1 rfl rfl (fun w hw => ⟨?_, hw.below⟩)
  all_goals first | exact ret_false (fun e => by subst e; contradiction) | exact ret_true (DChain.eq (by assumption) (by assumption) (by assumption) (by assumption))
end Go.Proofs.YtakijgpoaeggnaaGreat
/-
  Structs of numbers held against one another. Nothing of any one program.
-/
set_option linter.unusedVariables false
namespace Sx
open Go
/-- these fields are numbers, one after the other from this place on -/
def intFields (P : Program) : Nat → List Field → Bool
  | _, [] => true
  | o, f :: fs => (f.name != "_") && (f.offset == o) && (match P.underlying f.type with | some (.int _) => true | _ => false) && intFields P (o + 1) fs
def eqIntsB (P : Program) (t : TypeId) (k : Nat) : Bool :=
  (match P.underlying t with | some (.struct fs) => fs.size == k && intFields P 0 fs.toList | _ => false) && !P.stoodInHeld t && !P.eqGuardType P.depth t
class SEqI (P : Program) (t : TypeId) (k : Nat) : Prop where
  h : eqIntsB P t k = true
theorem part_int {P : Program} {t : TypeId} {kk : IntKind} (h : P.underlying t = some (.int kk)) {l : List Value} {o : Nat} {v : Value} (hv : l[o]? = some v) (w : World) : (part t l.toArray o).run P w = .ok v w := by
  simp [part, isAgg, run_underlying h, hv]
theorem eqFields_ints {P : Program} (d : Nat) (w : World) : ∀ (fs : List Field) (o : Nat) (p q a c : List Int), p.length = o → q.length = o → fs.length = a.length → a.length = c.length → intFields P o fs = true →
    (Op.eqFields (d + 1) (ivals (p ++ a)).toArray (ivals (q ++ c)).toArray fs).run P w = .ok (decide (a = c)) w
  | [], o, p, q, a, c, _, _, hl, hl2, _ => by
    have h1 : a = [] := List.eq_nil_of_length_eq_zero hl.symm
    subst h1
    have h2 : c = [] := List.eq_nil_of_length_eq_zero hl2.symm
    subst h2
    simp [Op.eqFields]
  | f :: fs, o, p, q, [], c, _, _, hl, _, _ => by simp at hl
  | f :: fs, o, p, q, x :: a, [], _, _, _, hl2, _ => by simp at hl2
  | f :: fs, o, p, q, x :: a, y :: c, hp, hq, hl, hl2, hf => by
    simp only [intFields, Bool.and_eq_true, bne_iff_ne, beq_iff_eq] at hf
    obtain ⟨⟨⟨h1, h2⟩, h3⟩, h4⟩ := hf
    obtain ⟨kk, hk⟩ : ∃ kk, P.underlying f.type = some (.int kk) := by
      cases hu : P.underlying f.type with
      | none => simp [hu] at h3
      | some td => cases td <;> simp [hu] at h3; exact ⟨_, rfl⟩
    have g1 : (ivals (p ++ x :: a))[f.offset]? = some (.int .i64 x) := by rw [h2, ← hp]; simp [ivals]
    have g2 : (ivals (q ++ y :: c))[f.offset]? = some (.int .i64 y) := by rw [h2, ← hq]; simp [ivals]
    have ih := eqFields_ints d w fs (o + 1) (p ++ [x]) (q ++ [y]) a c (by simp [hp]) (by simp [hq]) (by simpa using hl) (by simpa using hl2) h4
    rw [List.append_assoc, List.append_assoc] at ih
    simp only [List.singleton_append] at ih
    unfold Op.eqFields
    rw [if_pos h1]
    simp only [Sem.run_bind, part_int hk g1, part_int hk g2, Result.andThen_ok, run_equalIn_int w d f.type .i64 kk x y hk]
    by_cases e : x = y
    · subst e
      simp only [beq_self_eq_true, Bool.not_true, Bool.false_eq_true, if_false, ih, List.cons.injEq, true_and]
    · simp [e]
section
variable {P : Program} {n : Nat} {lo : SMut} {s : World} {E : SEnv} {L : SHeap} {d : Option Tmp} {ty : TypeId} {pos : String} {after : Array Edge} {g : Option (Nat × Bool)} {x y : Operand} {xt yt : TypeId}
theorem equal_ints {P : Program} {t : TypeId} {k : Nat} [hk : SEqI P t k] (d : Nat) {a c : List Int} (ha : a.length = k) (hc : c.length = k) (w : World) : (Op.equalIn (d + 2) t (.agg (ivals a).toArray) (.agg (ivals c).toArray)).run P w = .ok (decide (a = c)) w := by
  have h := hk.h
  unfold eqIntsB at h
  simp only [Bool.and_eq_true, Bool.not_eq_true'] at h
  obtain ⟨⟨h1, h2⟩, h3⟩ := h
  have h4 : P.underlying t = some (.struct (P.fieldsOf t)) ∧ (P.fieldsOf t).size = k ∧ intFields P 0 (P.fieldsOf t).toList = true := by
    unfold Program.fieldsOf
    cases hu : P.underlying t with
    | none => simp [hu] at h1
    | some td => cases td <;> simp [hu] at h1 ⊢; exact h1
  rw [run_equalIn_struct w (d + 1) t _ _ h4.1 h2]
  exact eqFields_ints d w _ 0 [] [] a c rfl rfl (by rw [Array.length_toList, h4.2.1, ha]) (by rw [ha, hc]) h4.2.2
theorem ov_neqI {k : Nat} [hk : SEqI P xt k] {a c : List Int} (hx : sval E x = some (.agg (ivals a).toArray)) (hy : sval E y = some (.agg (ivals c).toArray)) (ha : a.length = k) (hc : c.length = k) : SOpV P n lo s E L ⟨d, .binOp .neq xt x y yt, ty, pos, after, g⟩ (.bool (!decide (a = c))) :=
  SOpV.of_run fun q hq w hw => by
    have h := hk.h
    unfold eqIntsB at h
    simp only [Bool.and_eq_true, Bool.not_eq_true'] at h
    simp only [execOp, hq.sval hx, hq.sval hy, Sem.run_bind, run_eqGuard_agg w .neq xt x y _ _ h.2, Result.andThen_ok, run_neq_struct, equal_ints 9998 ha hc w]
    rfl
end
end Sx
namespace Go.Proofs.YtakijgpoaeggnaaGreat
open Go Sx
instance : SEqI Tryz.prog 100 4 := ⟨by kernel_rfl⟩
def rectL (r : DRect) : List Int := [r.X, r.Y, r.W, r.H]
theorem rectL_inj {r q : DRect} : rectL r = rectL q ↔ r = q := by
  constructor
  · intro h; cases r; cases q; simp [rectL] at h; simp [h]
  · intro h; rw [h]
theorem rectL_dec (r q : DRect) : decide (rectL r = rectL q) = decide (r = q) := decide_eq_decide.2 rectL_inj
section
variable {n : Nat} {lo : SMut} {s : World} {E : SEnv} {L : SHeap} {d : Option Tmp} {ty : TypeId} {pos : String} {after : Array Edge} {g : Option (Nat × Bool)} {x y : Operand} {yt : TypeId}
theorem ov_neRect {r q : DRect} (hx : sval E x = some (vRect r)) (hy : sval E y = some (vRect q)) : SOpV Tryz.prog n lo s E L ⟨d, .binOp .neq 100 x y yt, ty, pos, after, g⟩ (.bool (!decide (r = q))) := by
  rw [← rectL_dec]; exact ov_neqI (k := 4) (a := rectL r) (c := rectL q) hx hy rfl rfl
end
end Go.Proofs.YtakijgpoaeggnaaGreat
/-
  Contracts: faded pixels; places in oriented and in scaled pictures.
-/
set_option linter.unusedVariables false
namespace Go.Proofs.YtakijgpoaeggnaaGreat
open Go Sx
attribute [local irreducible] Exit.then Exit.inBlock bodyPost
end Go.Proofs.YtakijgpoaeggnaaGreat
/-
  Contracts: a pixel over another one; new images.
-/
set_option linter.unusedVariables false
namespace Go.Proofs.YtakijgpoaeggnaaGreat
open Go Sx
attribute [local irreducible] Exit.then Exit.inBlock bodyPost
/-- the first channels of a pixel over another one -/
def ovk (t c : Int) : Nat → Int
  | 0 => 255
  | k + 1 => ovk t c k * 256 + (prt (chan t ((k : Int) + 1)) (chan t 0) + prt (chan c ((k : Int) + 1)) (255 - chan t 0))
end Go.Proofs.YtakijgpoaeggnaaGreat
/-
  The program's grids: sixteen rows as numbers. Rules for their bits.
-/
set_option linter.unusedVariables false
namespace Go.Proofs.YtakijgpoaeggnaaGreat
open Go Sx
attribute [local irreducible] Exit.then Exit.inBlock bodyPost
def rowV (g : Grid) (y : Nat) : Value := .int .i64 (Sx.bits (g y) 16 : Nat)
abbrev gcells (g : Grid) : List Value := [rowV g 0, rowV g 1, rowV g 2, rowV g 3, rowV g 4, rowV g 5, rowV g 6, rowV g 7, rowV g 8, rowV g 9, rowV g 10, rowV g 11, rowV g 12, rowV g 13, rowV g 14, rowV g 15]
abbrev gval (g : Grid) : Value := .agg #[rowV g 0, rowV g 1, rowV g 2, rowV g 3, rowV g 4, rowV g 5, rowV g 6, rowV g 7, rowV g 8, rowV g 9, rowV g 10, rowV g 11, rowV g 12, rowV g 13, rowV g 14, rowV g 15]
def gl (g : Grid) : List Value := (List.range 16).map (rowV g)
theorem gl_eq (g : Grid) : gl g = gcells g := rfl
theorem gl_get (g : Grid) {y : Nat} (h : y < 16) : (gl g)[y]? = some (rowV g y) := by simp [gl, h]
theorem rowV_congr {g h : Grid} (e : g.eqv h) {y : Nat} (hy : y < 16) : rowV g y = rowV h y := by
  unfold rowV; rw [bits_congr 16 (fun i hi => e y i hy hi)]
theorem gl_congr {g h : Grid} (e : g.eqv h) : gl g = gl h := List.map_congr_left (fun y hy => rowV_congr e (List.mem_range.1 hy))
theorem gval_congr {g h : Grid} (e : g.eqv h) : gval g = gval h := by
  have := gl_congr e
  rw [gl_eq, gl_eq] at this
  show Value.agg (gcells g).toArray = Value.agg (gcells h).toArray
  rw [this]
def Grid.row (g : Grid) (y : Nat) (f : Nat → Bool) : Grid := fun b => if b = y then f else g b
theorem gl_set (g : Grid) {y : Nat} (hy : y < 16) (f : Nat → Bool) : (gl g).set y (.int .i64 (Sx.bits f 16 : Nat)) = gl (Grid.row g y f) := by
  apply List.ext_getElem?
  intro q
  rw [List.getElem?_set]
  by_cases hq : q < 16
  · rw [gl_get g hq, gl_get _ hq]
    unfold rowV Grid.row
    by_cases e : y = q
    · subst e; simp [gl, hy]
    · have e' : ¬ q = y := fun hh => e hh.symm
      simp [e, e']
  · have h1 : (gl g).length ≤ q := by simp [gl]; omega
    have h2 : (gl (Grid.row g y f)).length ≤ q := by simp [gl]; omega
    rw [List.getElem?_eq_none h1, List.getElem?_eq_none h2, if_neg (by omega)]
theorem bits16 (f : Nat → Bool) : 0 ≤ ((Sx.bits f 16 : Nat) : Int) ∧ ((Sx.bits f 16 : Nat) : Int) ≤ 65535 := by
  have := bits_lt f 16
  omega
section
variable {P : Program} {n : Nat} {lo : SMut} {s : World} {E : SEnv} {L : SHeap} {d : Option Tmp} {ty : TypeId} {pos : String} {after : Array Edge} {g0 : Option (Nat × Bool)} {x y : Operand} {xt yt : TypeId}
/-- an array of zeros -/
theorem ov_buildA0 {t e : TypeId} {len : Nat} {zl : List Value} {ze : Value} {k by_ ke be : Nat} [hu : SUnd P t (.array len e)] [hi : SInf P t (.agg zl.toArray) k by_] [he : SInf P e ze ke be] :
    SOpV P n lo s E L ⟨d, .build t #[], ty, pos, after, g0⟩ (.agg zl.toArray) :=
  SOpV.of_run fun a ha w hw => by
    obtain ⟨i1, h1, h2, h3, h4⟩ := hi.out
    obtain ⟨i2, q1, q2, q3, q4⟩ := he.out
    have hb : P.built t ([] : List (Nat × Value)) = some zl.toArray := by
      unfold Program.built
      simp only [h1, hu.h, h2, q1]
      rfl
    have := run_build w t #[] zl.toArray hb
    simp [execOp, this]
/-- a row of a grid in memory -/
theorem ov_ldG (g : Grid) {t : TypeId} {b i j : Nat} {td : TypeDesc} {T : TypeId} [hu : SUnd P t td] (hx : sval E x = some (.pointer (some ⟨b, 0 + j * 1, none⟩))) (hr : sisRow td = false) (hL : getL L i = some [(b, srow (gl g) T)]) (hj : j < 16) :
    SOpV P n lo s E L ⟨d, .load t x, ty, pos, after, g0⟩ (.int .i64 (Sx.bits (g j) 16 : Nat)) :=
  ov_load hx hr (getL_flat hL (List.mem_singleton.2 rfl)) (by rw [snth_eq, Nat.zero_add, Nat.mul_one]; exact gl_get g hj)
theorem ov_orG {f h : Nat → Bool} (hx : sval E x = some (.int .i64 (Sx.bits f 16 : Nat))) (hy : sval E y = some (.int .i64 (Sx.bits h 16 : Nat))) :
    SOpV P n lo s E L ⟨d, .binOp .or xt x y yt, ty, pos, after, g0⟩ (.int .i64 (Sx.bits (fun i => f i || h i) 16 : Nat)) := by
  have h1 := bits16 f
  have h2 := bits16 h
  have := ov_or (P := P) (n := n) (lo := lo) (s := s) (L := L) (d := d) (ty := ty) (pos := pos) (after := after) (g := g0) (xt := xt) (yt := yt) hx hy (by omega) (by omega)
  rw [Int.toNat_natCast, Int.toNat_natCast, bits_or] at this
  exact this
theorem ov_andG {f h : Nat → Bool} (hx : sval E x = some (.int .i64 (Sx.bits f 16 : Nat))) (hy : sval E y = some (.int .i64 (Sx.bits h 16 : Nat))) :
    SOpV P n lo s E L ⟨d, .binOp .and xt x y yt, ty, pos, after, g0⟩ (.int .i64 (Sx.bits (fun i => f i && h i) 16 : Nat)) := by
  have h1 := bits16 f
  have h2 := bits16 h
  have := ov_and (P := P) (n := n) (lo := lo) (s := s) (L := L) (d := d) (ty := ty) (pos := pos) (after := after) (g := g0) (xt := xt) (yt := yt) hx hy (by omega) (by omega)
  rw [Int.toNat_natCast, Int.toNat_natCast, bits_and] at this
  exact this
/-- one shifted left -/
theorem ov_bit {kj : IntKind} {j : Int} (hx : sval E x = some (.int .i64 1)) (hy : sval E y = some (.int kj j)) (hj : 0 ≤ j ∧ j ≤ 16) :
    SOpV P n lo s E L ⟨d, .binOp .shl xt x y yt, ty, pos, after, g0⟩ (.int .i64 ((2 ^ j.toNat : Nat) : Int)) := by
  have hp : (2 : Nat) ^ j.toNat ≤ 2 ^ 16 := Nat.pow_le_pow_right (by omega) (by omega)
  have e : (1 : Int) * 2 ^ j.toNat = ((2 ^ j.toNat : Nat) : Int) := by push_cast; omega
  have hm : ∀ m : Nat, m ≤ 2 ^ 16 → -9223372036854775808 ≤ (m : Int) ∧ (m : Int) ≤ 9223372036854775807 := fun m h => by omega
  have := ov_shl (P := P) (n := n) (lo := lo) (s := s) (L := L) (d := d) (ty := ty) (pos := pos) (after := after) (g := g0) (xt := xt) (yt := yt) hx hy (by omega) (by rw [e]; exact hm _ hp)
  rw [e] at this
  exact this
/-- is this bit there -/
theorem ov_andBit {f : Nat → Bool} {j : Nat} (hx : sval E x = some (.int .i64 (Sx.bits f 16 : Nat))) (hy : sval E y = some (.int .i64 ((2 ^ j : Nat) : Int))) (hj : j < 16) :
    SOpV P n lo s E L ⟨d, .binOp .and xt x y yt, ty, pos, after, g0⟩ (.int .i64 (if f j = true then ((2 ^ j : Nat) : Int) else 0)) := by
  have h1 := bits16 f
  have hp : (2 : Nat) ^ j ≤ 2 ^ 16 := Nat.pow_le_pow_right (by omega) (by omega)
  have hm : ∀ m : Nat, m ≤ 2 ^ 16 → 0 ≤ (m : Int) ∧ (m : Int) ≤ 9223372036854775807 := fun m h => by omega
  have := ov_and (P := P) (n := n) (lo := lo) (s := s) (L := L) (d := d) (ty := ty) (pos := pos) (after := after) (g := g0) (xt := xt) (yt := yt) hx hy (by omega) (hm _ hp)
  rw [Int.toNat_natCast, Int.toNat_natCast, bits_and_bit f hj] at this
  split at this
  · rename_i h; rw [if_pos h]; exact this
  · rename_i h; rw [if_neg h]; exact this
end
theorem bit_ne {p : Bool} {j : Nat} : (if p = true then ((2 ^ j : Nat) : Int) else 0) ≠ 0 ↔ p = true := by
  have h2 : 0 < 2 ^ j := Nat.pow_pos (by omega)
  cases p
  · simp
  · have hm : ∀ m : Nat, 0 < m → (m : Int) ≠ 0 := fun m h => by omega
    rw [if_pos rfl]
    exact ⟨fun _ => rfl, fun _ => hm _ h2⟩
end Go.Proofs.YtakijgpoaeggnaaGreat
/-
  Contracts: images that are copied; images that a function gives.
-/
set_option linter.unusedVariables false
namespace Go.Proofs.YtakijgpoaeggnaaGreat
open Go Sx
attribute [local irreducible] Exit.then Exit.inBlock bodyPost
/-- a function value that answers so, in every later world -/
def Gives (P : Program) (g : FuncId) (cap : List Value) (φ : Int → Int → Int) (w h : Int) (w0 : World) : Prop :=
  ∀ x y : Int, (0 ≤ x ∧ x < w) → (0 ≤ y ∧ y < h) → ∀ w', RowKit.Below w0.heap.size w0 w' → SYields P g (([Value.int .i64 x, Value.int .i64 y] : List Value) ++ cap).toArray (.int .i64 (φ x y)) w'
end Go.Proofs.YtakijgpoaeggnaaGreat
/-
  The plain functions, continued: places in pictures that are turned and scaled; fading in place; colors in place. No program in sight.
-/
set_option linter.unusedVariables false
namespace Sx
/-! ### chapter 7 -/
/-! ### fading in place -/
def mapFirst (f : Int → Int) (l : List Int) (j : Nat) : List Int := (l.take j).map f ++ l.drop j
end Sx
/-
  Contracts: images that are turned, scaled, faded.
-/
set_option linter.unusedVariables false
namespace Go.Proofs.YtakijgpoaeggnaaGreat
open Go Sx
attribute [local irreducible] Exit.then Exit.inBlock bodyPost
end Go.Proofs.YtakijgpoaeggnaaGreat
/-
  Contracts: the picture of a surface; is it opaque.
-/
set_option linter.unusedVariables false
namespace Go.Proofs.YtakijgpoaeggnaaGreat
open Go Sx
attribute [local irreducible] Exit.then Exit.inBlock bodyPost oriented scaled pictureOf rawPicture
section
variable {n : Nat} {lo : SMut} {s : World} {ops : Array Oper} {Q : Exit → Act → World → Prop} {E : SEnv} {L : SHeap} {dd : Nat} {ty : TypeId} {pos : String} {after : Array Edge} {rest : List Oper}
end
end Go.Proofs.YtakijgpoaeggnaaGreat
/-
  Contracts: a scene painted by the program.
-/
set_option linter.unusedVariables false
namespace Go.Proofs.YtakijgpoaeggnaaGreat
open Go Sx
attribute [local irreducible] Exit.then Exit.inBlock bodyPost oriented scaled pictureOf rawPicture
/-- the first j rows of a rectangle -/
def rowsG (r : DRect) (j : Nat) : Grid := fun y x => r.holds y x && decide ((y : Int) < r.Y + j)
theorem rowsG_zero (r : DRect) : (rowsG r 0).eqv Grid.none := fun y x hy hx => by
  unfold rowsG DRect.holds Grid.none
  rw [← Bool.decide_and]; exact decide_eq_false (fun hh => by have h1 := hh.1.2; have h2 := hh.2; omega)
theorem rowsG_next {r : DRect} (h : r.ok) (h0 : 0 ≤ r.X ∧ 0 ≤ r.Y) {j : Nat} (hj : (j : Int) < r.H) : (Grid.row (rowsG r j) (r.Y + j).toNat (fun i => decide (r.X.toNat ≤ i ∧ i < r.X.toNat + r.W.toNat))).eqv (rowsG r (j + 1)) := fun y x hy hx => by
  have h' := h
  unfold DRect.ok at h'
  unfold Grid.row rowsG DRect.holds
  by_cases e : y = (r.Y + j).toNat
  · subst e
    rw [if_pos rfl, ← Bool.decide_and]
    exact decide_eq_decide.2 ⟨fun hh => ⟨⟨h, by omega⟩, by push_cast; omega⟩, fun hh => by have h1 := hh.1.2; omega⟩
  · rw [if_neg e, ← Bool.decide_and, ← Bool.decide_and]
    exact decide_eq_decide.2 ⟨fun hh => ⟨hh.1, by push_cast; omega⟩, fun hh => ⟨hh.1, by have h1 := hh.2; have h2 := hh.1.2; push_cast at h1; omega⟩⟩
theorem rowsG_all {r : DRect} {j : Nat} (hj : r.H ≤ (j : Int)) : (rowsG r j).eqv (rectG r) := fun y x hy hx => by
  unfold rowsG rectG DRect.holds
  rw [← Bool.decide_and]
  exact decide_eq_decide.2 ⟨fun hh => hh.1, fun hh => ⟨hh, by have := hh.2; omega⟩⟩
theorem inter_screen_in (r : DRect) : 0 ≤ (r.inter DRect.screen).X ∧ 0 ≤ (r.inter DRect.screen).Y ∧ 0 ≤ (r.inter DRect.screen).W ∧ 0 ≤ (r.inter DRect.screen).H ∧ (r.inter DRect.screen).X + (r.inter DRect.screen).W ≤ 16 ∧ (r.inter DRect.screen).Y + (r.inter DRect.screen).H ≤ 16 := by
  by_cases h : r.ok
  · unfold DRect.inter
    rw [if_pos ⟨h, screen_ok⟩]
    unfold DRect.ok at h
    split
    · unfold DRect.zero; dsimp only; omega
    · rename_i hh; unfold DRect.screen at hh ⊢; dsimp only at hh ⊢; omega
  · rw [inter_not (.inl h)]; unfold DRect.zero; dsimp only; omega
theorem span_val {X W : Int} (h1 : 0 ≤ X) (h2 : 0 ≤ W) (h3 : X + W ≤ 16) : (((2 ^ W.toNat : Nat) : Int) - 1) * 2 ^ X.toNat = (Sx.bits (fun i => decide (X.toNat ≤ i ∧ i < X.toNat + W.toNat)) 16 : Nat) := by
  rw [← bits_span (X := X.toNat) (W := W.toNat) (n := 16) (by omega)]
  have : 1 ≤ 2 ^ W.toNat := Nat.pow_pos (by omega)
  push_cast [this]
  rfl
section
variable {P : Program} {n : Nat} {lo : SMut} {s : World} {E : SEnv} {L : SHeap} {d : Option Tmp} {ty : TypeId} {pos : String} {after : Array Edge} {g0 : Option (Nat × Bool)} {x y : Operand} {xt yt : TypeId}
theorem ov_span {kj : IntKind} {X W : Int} (hx : sval E x = some (.int .i64 (((2 ^ W.toNat : Nat) : Int) - 1))) (hy : sval E y = some (.int kj X)) (h1 : 0 ≤ X) (h2 : 0 ≤ W) (h3 : X + W ≤ 16) :
    SOpV P n lo s E L ⟨d, .binOp .shl xt x y yt, ty, pos, after, g0⟩ (.int .i64 (Sx.bits (fun i => decide (X.toNat ≤ i ∧ i < X.toNat + W.toNat)) 16 : Nat)) := by
  have hb := bits16 (fun i => decide (X.toNat ≤ i ∧ i < X.toNat + W.toNat))
  rw [← span_val h1 h2 h3] at hb ⊢
  exact ov_shl hx hy (by omega) (by omega)
end
theorem pow_bd {j : Int} (h : 0 ≤ j ∧ j ≤ 16) : 1 ≤ ((2 ^ j.toNat : Nat) : Int) ∧ ((2 ^ j.toNat : Nat) : Int) ≤ 65536 := by
  have h1 : 2 ^ j.toNat ≤ 2 ^ 16 := Nat.pow_le_pow_right (by omega) (by omega)
  have h2 : 0 < 2 ^ j.toNat := Nat.pow_pos (by omega)
  have hm : ∀ m : Nat, 0 < m → m ≤ 2 ^ 16 → 1 ≤ (m : Int) ∧ (m : Int) ≤ 65536 := fun m a b => by omega
  exact hm _ h2 h1
theorem c_gridOf (r0 : DRect) (w : World) : SYields Tryz.prog 102 #[vRect r0] (gval (rectG r0)) w := by
  rw [← gval_congr (inter_screen (r := r0))]
  have hin := inter_screen_in r0
  have hok : (r0.inter DRect.screen).ok := by unfold DRect.ok; omega
  (first | apply SYields.mk | apply SYieldsF.mk | skip); refine s_enter Tryz.func102 rfl Tryz.ntmps102 rfl ?_
  repeat' (first | exact rfl | (apply kO; (first | exact ov_pure rfl | (apply kOBin; (first | exact aBin | exact (ov_sub rfl rfl (by have := pow_bd (j := (r0.inter DRect.screen).W) (by omega); omega)))) | (apply kOCall; (first | (apply kCallF; (first | exact (ov_call rfl (fun w hw => c_iintersect r0 DRect.screen w)))) | (apply kCallB; (first | exact aBlt | exact aLenR)))) | (apply kOLoad; (first | exact aLdF | exact aLdR)) | exact ov_fieldAddr rfl | (apply kOIdx; (first | exact (ov_indexAddrA rfl rfl (by omega)) | exact aIdx)) | exact aRest | exact (ov_bit rfl rfl (by omega)) | exact (ov_span rfl rfl (by omega) (by omega) (by omega)) | exact (ov_buildA0) | exact aNew | exact (ov_field1 (ft := 31) rfl rfl rfl rfl))) | (refine kN ?_; (first | (refine kStore ?_; (first | (refine s_setR _ rfl rfl gpA rfl (by simp [gl]; omega) ?_) | refine s_store1 _ rfl rfl gpA rfl (by rfl) ?_ | refine s_storeS _ rfl rfl gpA rfl rfl (by rfl) ?_ | refine s_storeS _ rfl rfl gpA rfl (ones_img oiA) (by rfl) ?_)) | refine s_boxS rfl rfl (fun b hb => ?_) | refine s_allocS rfl (fun b hb => ?_) | refine s_box1 rfl rfl rfl (fun b hb => ?_) | refine s_alloc1 rfl rfl (fun b hb => ?_) | refine s_buildSlice0 rfl (fun b hb => ?_) | refine s_buildSlice rfl rfl rfl rfl rfl (fun b hb => ?_) | apply s_step)) | (refine kG ?_; (first | refine s_gyes rfl rfl rfl ?_ | refine s_gno rfl rfl rfl rfl rfl ?_ | ((first | refine s_split_d rfl rfl (fun h => ?_) (fun h => ?_) | refine s_split_n rfl rfl (fun h => ?_) (fun h => ?_)) <;> (try (first | contradiction | (exfalso; omega)))) | refine s_split_nb rfl rfl (fun h => ?_) (fun h => ?_) | refine s_split rfl rfl (fun h => ?_) (fun h => ?_))) | (refine kS ?_; (first | refine h_exec rfl ?_ | refine h_take_nil rfl rfl rfl ?_ | refine h_take_pick rfl rfl rfl ?_ | refine h_nil ?_ | refine h_alt ?_ ?_ | apply h_take)) | (refine kBack ?_; (first | refine h_back_last rfl ?_ | refine h_backN rfl subA ?_)) | refine l_then ?_ | (refine kC ?_; (first | (refine kReg 6 ?_; refine c_regionSN (SPlan.take 0 (SPlan.take 1 (SPlan.take 2 (SPlan.take 3 (SPlan.take 4 (SPlan.take 5 (SPlan.take 6 (SPlan.take 7 (SPlan.take 8 (SPlan.run 9 SPlan.done)))))))))) (some 9) rfl rfl (by decide +kernel) ?_) | (refine kReg 6 ?_; refine c_regionSN (SPlan.take 0 (SPlan.take 1 (SPlan.take 2 (SPlan.take 3 (SPlan.take 4 (SPlan.take 5 (SPlan.take 6 (SPlan.take 7 (SPlan.take 8 (SPlan.run 9 SPlan.done)))))))))) none rfl rfl (by decide +kernel) ?_) | (refine c_loopV (ι := Nat) (fun j => (j : Int) ≤ (r0.inter DRect.screen).H) (fun j => [(4, .int .i64 ((r0.inter DRect.screen).Y + j))]) (fun j => [[(_, srow (gl (rowsG (r0.inter DRect.screen) j)) _)], _, _]) (fun j => (r0.inter DRect.screen).H.toNat - j) 0 (by omega) rfl (fun _ => rfl) ⟨slook_to rfl (vint_to (by simp)), trivial⟩ (fun w hw => by rw [gl_congr (rowsG_zero _)]; exact hw) (fun j hj => ?_)) | refine c_seq ?_ | refine c_regionN rfl ?_ | refine c_ret ?_ | (refine kCond ?_; (first | refine c_cond_t rfl ?_ | refine c_cond_f rfl ?_ | ((first | refine c_cond_d rfl (fun h => ?_) (fun h => ?_) | refine c_cond_n rfl (fun h => ?_) (fun h => ?_)) <;> (try (first | contradiction | (exfalso; omega)))) | refine c_cond_nb rfl (fun h => ?_) (fun h => ?_) | refine c_cond rfl (fun h => ?_) (fun h => ?_))) | refine c_block ?_ | refine c_skip ?_ | refine c_exit ?_ | refine c_regionQN rfl rfl (by decide +kernel) ?_)) | apply s_stepQ | (refine kQG ?_; (first | refine s_gyesQ rfl rfl rfl ?_ | refine s_gnoQ rfl rfl rfl rfl rfl ?_ | ((first | refine s_splitQ_d rfl rfl (fun h => ?_) (fun h => ?_) | refine s_splitQ_n rfl rfl (fun h => ?_) (fun h => ?_)) <;> (try (first | contradiction | (exfalso; omega)))) | refine s_splitQ_nb rfl rfl (fun h => ?_) (fun h => ?_) | refine s_splitQ rfl rfl (fun h => ?_) (fun h => ?_))) | refine lQ_then ?_ | refine lQ_ends ?_ | (refine kE ?_; (first | refine e_then_r ?_ | refine e_block_r ?_ | refine e_then_n ?_ | refine e_then_x ?_ | refine e_block_n ?_ | refine e_block_x ?_ | refine e_block_y rfl ?_)) | refine l_ends ?_)
  · refine e_round (j + 1) (by push_cast; omega) ⟨slook_to rfl (vint_to (by push_cast; omega)), (by repeat' first | exact trivial | refine ⟨rfl, ?_⟩)⟩ (fun w hw => ?_) (by omega)
    have e : (gl (rowsG (r0.inter DRect.screen) j)).set (0 + ((r0.inter DRect.screen).Y + j).toNat * 1) (.int .i64 (Sx.bits (fun i => decide ((r0.inter DRect.screen).X.toNat ≤ i ∧ i < (r0.inter DRect.screen).X.toNat + (r0.inter DRect.screen).W.toNat)) 16 : Nat)) = gl (rowsG (r0.inter DRect.screen) (j + 1)) := by
      rw [Nat.zero_add, Nat.mul_one, gl_set _ (by omega), gl_congr (rowsG_next hok ⟨by omega, by omega⟩ (by omega))]
    rw [← e]; exact hw
  · refine s_leaveSF rfl rfl rfl fwA (fun w hw => ⟨?_, hw.below⟩)
    show Ending.returned (gval (rowsG (r0.inter DRect.screen) j)) = _
    rw [gval_congr (rowsG_all (by omega))]
end Go.Proofs.YtakijgpoaeggnaaGreat
/-
  Contracts: the program's grids joined; regions as grids; the canonical form.
-/
set_option linter.unusedVariables false
namespace Go.Proofs.YtakijgpoaeggnaaGreat
open Go Sx
attribute [local irreducible] Exit.then Exit.inBlock bodyPost
/-- the first j rows are joined -/
def mixG (op : Bool → Bool → Bool) (g h : Grid) (j : Nat) : Grid := fun y x => if y < j then op (g y x) (h y x) else g y x
theorem mixG_zero (op : Bool → Bool → Bool) (g h : Grid) : (mixG op g h 0).eqv g := fun y x _ _ => by unfold mixG; rw [if_neg (by omega)]
theorem mixG_next (op : Bool → Bool → Bool) (g h : Grid) {j : Nat} : (Grid.row (mixG op g h j) j (fun i => op (mixG op g h j j i) (h j i))).eqv (mixG op g h (j + 1)) := fun y x _ _ => by
  unfold Grid.row mixG
  by_cases e : y = j
  · subst e; rw [if_pos rfl, if_neg (by omega), if_pos (by omega)]
  · rw [if_neg e]
    by_cases e2 : y < j
    · rw [if_pos e2, if_pos (by omega)]
    · rw [if_neg e2, if_neg (by omega)]
theorem mixG_all (op : Bool → Bool → Bool) (g h : Grid) {j : Nat} (hj : 16 ≤ j) : (mixG op g h j).eqv (fun y x => op (g y x) (h y x)) := fun y x hy _ => by unfold mixG; rw [if_pos (by omega)]
section
variable {P : Program} {n : Nat} {lo : SMut} {s : World} {E : SEnv} {L : SHeap} {d : Option Tmp} {ty : TypeId} {pos : String} {after : Array Edge} {g0 : Option (Nat × Bool)} {x y : Operand} {xt yt : TypeId}
end
theorem c_gor (g f : Grid) (w : World) : SYields Tryz.prog 47 #[gval g, gval f] (gval (g.or f)) w := by
  (first | apply SYields.mk | apply SYieldsF.mk | skip); refine s_enter Tryz.func47 rfl Tryz.ntmps47 rfl ?_
  repeat' (first | exact rfl | (apply kO; (first | exact ov_pure rfl | (apply kOBin; (first | exact aBin | exact (ov_orG rfl rfl))) | (apply kOCall; (first | (apply kCallB; (first | exact aBlt | exact aLenR)))) | (apply kOLoad; (first | exact (ov_ldG (mixG (fun p q => p || q) g f j) rfl rfl gpA (by omega)) | exact (ov_ldG f rfl rfl gpA (by omega)) | exact aLdF | exact aLdR)) | exact ov_fieldAddr rfl | (apply kOIdx; (first | exact (ov_indexAddrA rfl rfl (by omega)) | exact aIdx)) | exact aRest | exact aNew | exact (ov_field1 (ft := 31) rfl rfl rfl rfl))) | (refine kN ?_; (first | (refine kStore ?_; (first | (refine s_setR _ rfl rfl gpA rfl (by simp [gl]; omega) ?_) | refine s_store1 _ rfl rfl gpA rfl (by rfl) ?_ | refine s_storeS _ rfl rfl gpA rfl rfl (by rfl) ?_ | refine s_storeS _ rfl rfl gpA rfl (ones_img oiA) (by rfl) ?_)) | refine s_boxS rfl rfl (fun b hb => ?_) | refine s_allocS rfl (fun b hb => ?_) | refine s_box1 rfl rfl rfl (fun b hb => ?_) | refine s_alloc1 rfl rfl (fun b hb => ?_) | refine s_buildSlice0 rfl (fun b hb => ?_) | refine s_buildSlice rfl rfl rfl rfl rfl (fun b hb => ?_) | apply s_step)) | (refine kG ?_; (first | refine s_gyes rfl rfl rfl ?_ | refine s_gno rfl rfl rfl rfl rfl ?_ | ((first | refine s_split_d rfl rfl (fun h => ?_) (fun h => ?_) | refine s_split_n rfl rfl (fun h => ?_) (fun h => ?_)) <;> (try (first | contradiction | (exfalso; omega)))) | refine s_split_nb rfl rfl (fun h => ?_) (fun h => ?_) | refine s_split rfl rfl (fun h => ?_) (fun h => ?_))) | (refine kS ?_; (first | refine h_exec rfl ?_ | refine h_take_nil rfl rfl rfl ?_ | refine h_take_pick rfl rfl rfl ?_ | refine h_nil ?_ | refine h_alt ?_ ?_ | apply h_take)) | (refine kBack ?_; (first | refine h_back_last rfl ?_ | refine h_backN rfl subA ?_)) | refine l_then ?_ | (refine kC ?_; (first | (refine kReg 4 ?_; refine c_regionSN (SPlan.take 0 (SPlan.take 1 (SPlan.take 2 (SPlan.take 3 (SPlan.take 4 (SPlan.take 5 (SPlan.take 6 (SPlan.take 7 (SPlan.run 8 SPlan.done))))))))) (some 8) rfl rfl (by decide +kernel) ?_) | (refine kReg 4 ?_; refine c_regionSN (SPlan.take 0 (SPlan.take 1 (SPlan.take 2 (SPlan.take 3 (SPlan.take 4 (SPlan.take 5 (SPlan.take 6 (SPlan.take 7 (SPlan.run 8 SPlan.done))))))))) none rfl rfl (by decide +kernel) ?_) | (refine c_loopV (ι := Nat) (fun j => j ≤ 16) (fun j => [(6, .int .i64 (j : Int))]) (fun j => [_, _, [(_, srow (gl (mixG (fun p q => p || q) g f j)) _)]]) (fun j => 16 - j) 0 (by omega) rfl (fun _ => rfl) ⟨rfl, trivial⟩ (fun w hw => by rw [gl_congr (mixG_zero _ g f)]; exact hw) (fun j hj => ?_)) | refine c_seq ?_ | refine c_regionN rfl ?_ | refine c_ret ?_ | (refine kCond ?_; (first | refine c_cond_t rfl ?_ | refine c_cond_f rfl ?_ | ((first | refine c_cond_d rfl (fun h => ?_) (fun h => ?_) | refine c_cond_n rfl (fun h => ?_) (fun h => ?_)) <;> (try (first | contradiction | (exfalso; omega)))) | refine c_cond_nb rfl (fun h => ?_) (fun h => ?_) | refine c_cond rfl (fun h => ?_) (fun h => ?_))) | refine c_block ?_ | refine c_skip ?_ | refine c_exit ?_ | refine c_regionQN rfl rfl (by decide +kernel) ?_)) | apply s_stepQ | (refine kQG ?_; (first | refine s_gyesQ rfl rfl rfl ?_ | refine s_gnoQ rfl rfl rfl rfl rfl ?_ | ((first | refine s_splitQ_d rfl rfl (fun h => ?_) (fun h => ?_) | refine s_splitQ_n rfl rfl (fun h => ?_) (fun h => ?_)) <;> (try (first | contradiction | (exfalso; omega)))) | refine s_splitQ_nb rfl rfl (fun h => ?_) (fun h => ?_) | refine s_splitQ rfl rfl (fun h => ?_) (fun h => ?_))) | refine lQ_then ?_ | refine lQ_ends ?_ | (refine kE ?_; (first | refine e_then_r ?_ | refine e_block_r ?_ | refine e_then_n ?_ | refine e_then_x ?_ | refine e_block_n ?_ | refine e_block_x ?_ | refine e_block_y rfl ?_)) | refine l_ends ?_)
  · refine e_round (j + 1) (by omega) ⟨slook_to rfl (vint_to (by push_cast; rfl)), (by repeat' first | exact trivial | refine ⟨rfl, ?_⟩)⟩ (fun w hw => ?_) (by omega)
    have e : (gl (mixG (fun p q => p || q) g f j)).set (0 + (j : Int).toNat * 1) (.int .i64 (Sx.bits (fun i => (fun p q => p || q) (mixG (fun p q => p || q) g f j j i) (f j i)) 16 : Nat)) = gl (mixG (fun p q => p || q) g f (j + 1)) := by
      rw [Nat.zero_add, Nat.mul_one, Int.toNat_natCast, gl_set _ (by omega), gl_congr (mixG_next (fun p q => p || q) g f)]
    rw [← e]; exact hw
  · refine s_leaveSF rfl rfl rfl fwA (fun w hw => ⟨?_, hw.below⟩)
    show Ending.returned (gval (mixG (fun p q => p || q) g f j)) = _
    rw [gval_congr (mixG_all (fun p q => p || q) g f (by omega))]; rfl
theorem c_gand (g f : Grid) (w : World) : SYields Tryz.prog 107 #[gval g, gval f] (gval (g.and f)) w := by
  (first | apply SYields.mk | apply SYieldsF.mk | skip); refine s_enter Tryz.func107 rfl Tryz.ntmps107 rfl ?_
  repeat' (first | exact rfl | (apply kO; (first | exact ov_pure rfl | (apply kOBin; (first | exact aBin | exact (ov_andG rfl rfl))) | (apply kOCall; (first | (apply kCallB; (first | exact aBlt | exact aLenR)))) | (apply kOLoad; (first | exact (ov_ldG (mixG (fun p q => p && q) g f j) rfl rfl gpA (by omega)) | exact (ov_ldG f rfl rfl gpA (by omega)) | exact aLdF | exact aLdR)) | exact ov_fieldAddr rfl | (apply kOIdx; (first | exact (ov_indexAddrA rfl rfl (by omega)) | exact aIdx)) | exact aRest | exact aNew | exact (ov_field1 (ft := 31) rfl rfl rfl rfl))) | (refine kN ?_; (first | (refine kStore ?_; (first | (refine s_setR _ rfl rfl gpA rfl (by simp [gl]; omega) ?_) | refine s_store1 _ rfl rfl gpA rfl (by rfl) ?_ | refine s_storeS _ rfl rfl gpA rfl rfl (by rfl) ?_ | refine s_storeS _ rfl rfl gpA rfl (ones_img oiA) (by rfl) ?_)) | refine s_boxS rfl rfl (fun b hb => ?_) | refine s_allocS rfl (fun b hb => ?_) | refine s_box1 rfl rfl rfl (fun b hb => ?_) | refine s_alloc1 rfl rfl (fun b hb => ?_) | refine s_buildSlice0 rfl (fun b hb => ?_) | refine s_buildSlice rfl rfl rfl rfl rfl (fun b hb => ?_) | apply s_step)) | (refine kG ?_; (first | refine s_gyes rfl rfl rfl ?_ | refine s_gno rfl rfl rfl rfl rfl ?_ | ((first | refine s_split_d rfl rfl (fun h => ?_) (fun h => ?_) | refine s_split_n rfl rfl (fun h => ?_) (fun h => ?_)) <;> (try (first | contradiction | (exfalso; omega)))) | refine s_split_nb rfl rfl (fun h => ?_) (fun h => ?_) | refine s_split rfl rfl (fun h => ?_) (fun h => ?_))) | (refine kS ?_; (first | refine h_exec rfl ?_ | refine h_take_nil rfl rfl rfl ?_ | refine h_take_pick rfl rfl rfl ?_ | refine h_nil ?_ | refine h_alt ?_ ?_ | apply h_take)) | (refine kBack ?_; (first | refine h_back_last rfl ?_ | refine h_backN rfl subA ?_)) | refine l_then ?_ | (refine kC ?_; (first | (refine kReg 4 ?_; refine c_regionSN (SPlan.take 0 (SPlan.take 1 (SPlan.take 2 (SPlan.take 3 (SPlan.take 4 (SPlan.take 5 (SPlan.take 6 (SPlan.take 7 (SPlan.run 8 SPlan.done))))))))) (some 8) rfl rfl (by decide +kernel) ?_) | (refine kReg 4 ?_; refine c_regionSN (SPlan.take 0 (SPlan.take 1 (SPlan.take 2 (SPlan.take 3 (SPlan.take 4 (SPlan.take 5 (SPlan.take 6 (SPlan.take 7 (SPlan.run 8 SPlan.done))))))))) none rfl rfl (by decide +kernel) ?_) | (refine c_loopV (ι := Nat) (fun j => j ≤ 16) (fun j => [(6, .int .i64 (j : Int))]) (fun j => [_, _, [(_, srow (gl (mixG (fun p q => p && q) g f j)) _)]]) (fun j => 16 - j) 0 (by omega) rfl (fun _ => rfl) ⟨rfl, trivial⟩ (fun w hw => by rw [gl_congr (mixG_zero _ g f)]; exact hw) (fun j hj => ?_)) | refine c_seq ?_ | refine c_regionN rfl ?_ | refine c_ret ?_ | (refine kCond ?_; (first | refine c_cond_t rfl ?_ | refine c_cond_f rfl ?_ | ((first | refine c_cond_d rfl (fun h => ?_) (fun h => ?_) | refine c_cond_n rfl (fun h => ?_) (fun h => ?_)) <;> (try (first | contradiction | (exfalso; omega)))) | refine c_cond_nb rfl (fun h => ?_) (fun h => ?_) | refine c_cond rfl (fun h => ?_) (fun h => ?_))) | refine c_block ?_ | refine c_skip ?_ | refine c_exit ?_ | refine c_regionQN rfl rfl (by decide +kernel) ?_)) | apply s_stepQ | (refine kQG ?_; (first | refine s_gyesQ rfl rfl rfl ?_ | refine s_gnoQ rfl rfl rfl rfl rfl ?_ | ((first | refine s_splitQ_d rfl rfl (fun h => ?_) (fun h => ?_) | refine s_splitQ_n rfl rfl (fun h => ?_) (fun h => ?_)) <;> (try (first | contradiction | (exfalso; omega)))) | refine s_splitQ_nb rfl rfl (fun h => ?_) (fun h => ?_) | refine s_splitQ rfl rfl (fun h => ?_) (fun h => ?_))) | refine lQ_then ?_ | refine lQ_ends ?_ | (refine kE ?_; (first | refine e_then_r ?_ | refine e_block_r ?_ | refine e_then_n ?_ | refine e_then_x ?_ | refine e_block_n ?_ | refine e_block_x ?_ | refine e_block_y rfl ?_)) | refine l_ends ?_)
  · refine e_round (j + 1) (by omega) ⟨slook_to rfl (vint_to (by push_cast; rfl)), (by repeat' first | exact trivial | refine ⟨rfl, ?_⟩)⟩ (fun w hw => ?_) (by omega)
    have e : (gl (mixG (fun p q => p && q) g f j)).set (0 + (j : Int).toNat * 1) (.int .i64 (Sx.bits (fun i => (fun p q => p && q) (mixG (fun p q => p && q) g f j j i) (f j i)) 16 : Nat)) = gl (mixG (fun p q => p && q) g f (j + 1)) := by
      rw [Nat.zero_add, Nat.mul_one, Int.toNat_natCast, gl_set _ (by omega), gl_congr (mixG_next (fun p q => p && q) g f)]
    rw [← e]; exact hw
  · refine s_leaveSF rfl rfl rfl fwA (fun w hw => ⟨?_, hw.below⟩)
    show Ending.returned (gval (mixG (fun p q => p && q) g f j)) = _
    rw [gval_congr (mixG_all (fun p q => p && q) g f (by omega))]; rfl
end Go.Proofs.YtakijgpoaeggnaaGreat
/-
  Contract: the canonical form of a grid, by the program.
-/
set_option linter.unusedVariables false
namespace Go.Proofs.YtakijgpoaeggnaaGreat
open Go Sx
attribute [local irreducible] Exit.then Exit.inBlock bodyPost Sx.bits canonR rowR
theorem OVs.one {α : Type} {c : α → List Value} {k : Nat} {T : TypeId} {v : Value} {l : List α} {H : SPiece} (h : OVs c k T v l H) : v.oneCell' = true := by
  obtain ⟨a, q, rfl⟩ := h.form; rfl
theorem bits_same {g : Grid} {y z : Nat} : ((Sx.bits (g z) 16 : Nat) : Int) = (Sx.bits (g y) 16 : Nat) ↔ sameRow g y z = true := by
  rw [sameRow_iff]
  constructor
  · intro h; exact bits_inj.1 (by omega)
  · intro h; rw [bits_inj.2 h]
theorem hgt_of {g : Grid} {y e : Nat} (h1 : y + 1 ≤ e) (h2 : ∀ z, y < z → z < e → z < 16 ∧ sameRow g y z = true) (h3 : ¬ (e < 16 ∧ sameRow g y e = true)) : hgt g y = e - y := by
  have := rnl_eq (f := sameRow g y) (x := y + 1) (w := e - (y + 1)) (fun i a b => h2 i (by omega) (by omega)) (by rw [show y + 1 + (e - (y + 1)) = e by omega]; exact h3)
  unfold hgt; omega
theorem rnl_of {f : Nat → Bool} {x z : Nat} (h1 : x ≤ z) (h2 : ∀ i, x ≤ i → i < z → i < 16 ∧ f i = true) (h3 : ¬ (z < 16 ∧ f z = true)) : rnl f x = z - x :=
  rnl_eq (fun i a b => h2 i a (by omega)) (by rw [show x + (z - x) = z by omega]; exact h3)
theorem rowR_app {f : Nat → Bool} {y h : Int} {x z : Nat} (hx : x < 16) (h1 : x < z) (h2 : ∀ i, x ≤ i → i < z → i < 16 ∧ f i = true) (h3 : ¬ (z < 16 ∧ f z = true)) : rowR f y h x = [⟨x, y, (z : Int) - x, h⟩] ++ rowR f y h (z + 1) := by
  have e := rnl_of (Nat.le_of_lt h1) h2 h3
  rw [rowR_step hx, e, if_neg (by omega), show x + (z - x) + 1 = z + 1 by omega, show (((z - x : Nat)) : Int) = (z : Int) - x by omega]
theorem rowR_skip {f : Nat → Bool} {y h : Int} {x : Nat} (hx : x < 16) (h3 : ¬ (x < 16 ∧ f x = true)) : rowR f y h x = rowR f y h (x + 1) := by
  have e := rnl_of (Nat.le_refl x) (fun i a c => by omega) h3
  rw [rowR_step hx, e, if_pos (by omega), show x + (x - x) + 1 = x + 1 by omega]; rfl
set_option maxHeartbeats 4000000 in
theorem c_gregion (g : Grid) (W : World) : SYieldsF Tryz.prog 44 #[gval g] (fun u H => OReg u (canon g) H) W := by
  (first | apply SYields.mk | apply SYieldsF.mk | skip); refine s_enter Tryz.func44 rfl Tryz.ntmps44 rfl ?_
  repeat' (first | exact rfl | (apply kO; (first | exact ov_pure rfl | (apply kOBin; (first | exact aBin | exact (ov_andBit rfl rfl (by omega)))) | (apply kOCall; (first | (apply kCallB; (first | exact aBlt | exact aLenR)))) | (apply kOLoad; (first | exact (ov_ldG g rfl rfl gpA (by omega)) | exact aLdF | exact aLdR)) | exact ov_fieldAddr rfl | (apply kOIdx; (first | exact (ov_indexAddrA rfl rfl (by omega)) | exact aIdx)) | exact aRest | exact (ov_bit rfl rfl (by omega)) | exact aNew | exact (ov_field1 (ft := 31) rfl rfl rfl rfl))) | (refine kN ?_; (first | (refine kCall ?_; (first | (refine kWApp ?_; (refine s_appendVs _ _ (c := cRect) (kk := 4) (a := ⟨x.1, y.1, (z : Int) - x.1, (e : Int) - y.1⟩) rfl rfl (by assumption) gpA gpA rfl rfl (by rw [scells_eq]; rfl) (by decide) (by omega) (by decide) rfl (fun v' H' hv' => ?_); have f1 := hv'.form; obtain ⟨ua, uc, rfl⟩ := f1)) | apply s_step)) | (refine kStore ?_; (first | (refine s_storeS _ rfl rfl gpA rfl (ones_cons (OVs.one (by assumption)) rfl) (by rfl) ?_) | refine s_store1 _ rfl rfl gpA rfl (by rfl) ?_ | refine s_storeS _ rfl rfl gpA rfl rfl (by rfl) ?_ | refine s_storeS _ rfl rfl gpA rfl (ones_img oiA) (by rfl) ?_)) | refine s_boxS rfl rfl (fun b hb => ?_) | refine s_allocS rfl (fun b hb => ?_) | refine s_box1 rfl rfl rfl (fun b hb => ?_) | refine s_alloc1 rfl rfl (fun b hb => ?_) | refine s_buildSlice0 rfl (fun b hb => ?_) | refine s_buildSlice rfl rfl rfl rfl rfl (fun b hb => ?_) | apply s_step)) | (refine kG ?_; (first | refine s_gyes rfl rfl rfl ?_ | refine s_gno rfl rfl rfl rfl rfl ?_ | ((first | refine s_split_d rfl rfl (fun h => ?_) (fun h => ?_) | refine s_split_n rfl rfl (fun h => ?_) (fun h => ?_)) <;> (try (first | contradiction | (exfalso; omega)))) | refine s_split_nb rfl rfl (fun h => ?_) (fun h => ?_) | refine s_split rfl rfl (fun h => ?_) (fun h => ?_))) | refine l_then ?_ | (refine kC ?_; (first | (refine c_loopV (ι := Nat × List DRect × Value × SPiece) (fun y => y.1 ≤ 16 ∧ ORects y.2.2.1 y.2.1 y.2.2.2 ∧ y.2.1 ++ canonR g y.1 = canon g ∧ y.2.1.length ≤ 8 * y.1) (fun y => [(4, .int .i64 (y.1 : Int))]) (fun y => [[(_, srow [y.2.2.1] 43)], y.2.2.2, _, _]) (fun y => 16 - y.1) (0, [], _, []) ⟨by dsimp only; omega, OVs.nil, (show [] ++ canonR g 0 = canonR g 0 from List.nil_append _), by dsimp only; simp⟩ rfl (fun _ => rfl) ⟨rfl, trivial⟩ (fun w hw => hw.nil1) (fun y hy => ?_); obtain ⟨hy1, hy2, hy3, hy4⟩ := hy) | (refine c_loopV (ι := Nat) (fun e => (y.1 + 1 ≤ e ∧ e ≤ 16) ∧ ∀ z, y.1 < z → z < e → z < 16 ∧ sameRow g y.1 z = true) (fun e => [(5, .int .i64 (e : Int))]) (fun e => [_, _, _, _]) (fun e => 16 - e) (y.1 + 1) ⟨by omega, fun z a b => by omega⟩ rfl (fun _ => rfl) ⟨slook_to rfl (vint_to (by push_cast; rfl)), trivial⟩ (fun w hw => hw) (fun e he => ?_); obtain ⟨he1, he2⟩ := he) | (refine c_loopV (ι := Nat × List DRect × Value × SPiece) (fun x => x.1 ≤ 17 ∧ ORects x.2.2.1 x.2.1 x.2.2.2 ∧ x.2.1 ++ (rowR (g y.1) y.1 ((e : Int) - y.1) x.1 ++ canonR g e) = canon g ∧ x.2.1.length ≤ 8 * y.1 + x.1 / 2) (fun x => [(6, .int .i64 (x.1 : Int))]) (fun x => [[(_, srow [x.2.2.1] 43)], x.2.2.2, _, _]) (fun x => 17 - x.1) (0, y.2.1, y.2.2.1, y.2.2.2) ⟨by dsimp only; omega, hy2, by dsimp only; rw [← hy3, canonR_step (g := g) (y := y.1) (by omega), hgt_of he1.1 he2 (fun hh => by first | omega | (exact absurd (bits_same.2 hh.2) (by assumption))), show y.1 + (e - y.1) = e by omega, show (((e - y.1 : Nat)) : Int) = (e : Int) - y.1 by omega], by dsimp only; omega⟩ rfl (fun _ => rfl) ⟨rfl, trivial⟩ (fun w hw => hw) (fun x hx => ?_); obtain ⟨hx1, hx2, hx3, hx4⟩ := hx) | (refine c_loopV (ι := Nat) (fun z => (x.1 ≤ z ∧ z ≤ 16) ∧ ∀ i, x.1 ≤ i → i < z → i < 16 ∧ g y.1 i = true) (fun z => [(6, .int .i64 (z : Int))]) (fun z => [_, _, _, _]) (fun z => 16 - z) x.1 ⟨by omega, fun i a b => by omega⟩ rfl (fun _ => rfl) ⟨rfl, trivial⟩ (fun w hw => hw) (fun z hz => ?_); obtain ⟨hz1, hz2⟩ := hz) | refine c_seq ?_ | refine c_regionN rfl ?_ | refine c_ret ?_ | (refine kCond ?_; (first | refine c_cond_t rfl ?_ | refine c_cond_f rfl ?_ | ((first | refine c_cond_d rfl (fun h => ?_) (fun h => ?_) | refine c_cond_n rfl (fun h => ?_) (fun h => ?_)) <;> (try (first | contradiction | (exfalso; omega)))) | refine c_cond_nb rfl (fun h => ?_) (fun h => ?_) | refine c_cond rfl (fun h => ?_) (fun h => ?_))) | refine c_block ?_ | refine c_skip ?_ | refine c_exit ?_ | refine c_regionQN rfl rfl (by decide +kernel) ?_)) | apply s_stepQ | (refine kQG ?_; (first | refine s_gyesQ rfl rfl rfl ?_ | refine s_gnoQ rfl rfl rfl rfl rfl ?_ | ((first | refine s_splitQ_d rfl rfl (fun h => ?_) (fun h => ?_) | refine s_splitQ_n rfl rfl (fun h => ?_) (fun h => ?_)) <;> (try (first | contradiction | (exfalso; omega)))) | refine s_splitQ_nb rfl rfl (fun h => ?_) (fun h => ?_) | refine s_splitQ rfl rfl (fun h => ?_) (fun h => ?_))) | refine lQ_then ?_ | refine lQ_ends ?_ | (refine kE ?_; (first | refine e_then_r ?_ | refine e_block_r ?_ | refine e_then_n ?_ | refine e_then_x ?_ | refine e_block_n ?_ | refine e_block_x ?_ | refine e_block_y rfl ?_)) | refine l_ends ?_)
  · refine e_round (e + 1) ⟨by omega, fun z a c => ?_⟩ ⟨slook_to rfl (vint_to (by push_cast; rfl)), (by repeat' first | exact trivial | refine ⟨rfl, ?_⟩)⟩ (fun w hw => hw) (by omega)
    by_cases e0 : z = e
    · subst e0; exact ⟨by omega, bits_same.1 h⟩
    · exact he2 z a (by omega)
  · refine e_round (z + 1) ⟨by omega, fun i a c => ?_⟩ ⟨slook_to rfl (vint_to (by push_cast; rfl)), (by repeat' first | exact trivial | refine ⟨rfl, ?_⟩)⟩ (fun w hw => hw) (by omega)
    by_cases e0 : i = z
    · subst e0; exact ⟨by omega, bit_ne.1 h⟩
    · exact hz2 i a (by omega)
  · have hxz : x.1 < z := by omega
    have hn : ¬ (z < 16 ∧ g y.1 z = true) := fun hh => by first | omega | exact absurd (bit_ne.2 hh.2) (by assumption)
    refine e_round (z + 1, _, _, H') ⟨by dsimp only; omega, hv', ?_, by dsimp only; rw [List.length_append, List.length_singleton]; omega⟩ ⟨slook_to rfl (vint_to (by push_cast; rfl)), (by repeat' first | exact trivial | refine ⟨rfl, ?_⟩)⟩ (fun w hw => hw.sub (selO_sub [false, true, true, true, true] _ _ rfl)) (by dsimp only; omega)
    dsimp only
    rw [← hx3, rowR_app (f := g y.1) (y := y.1) (h := (e : Int) - y.1) (by omega) hxz hz2 hn, List.append_assoc, List.append_assoc]
  · have hxz : z = x.1 := by omega
    have hn : ¬ (z < 16 ∧ g y.1 z = true) := fun hh => by first | omega | exact absurd (bit_ne.2 hh.2) (by assumption)
    subst hxz
    refine e_round (x.1 + 1, x.2.1, x.2.2.1, x.2.2.2) ⟨by dsimp only; omega, hx2, ?_, by dsimp only; omega⟩ ⟨slook_to rfl (vint_to (by push_cast; rfl)), (by repeat' first | exact trivial | refine ⟨rfl, ?_⟩)⟩ (fun w hw => hw) (by dsimp only; omega)
    dsimp only
    rw [← rowR_skip (f := g y.1) (y := y.1) (h := (e : Int) - y.1) (by omega) hn]; exact hx3
  · have hxz : x.1 < z := by omega
    have hn : ¬ (z < 16 ∧ g y.1 z = true) := fun hh => by first | omega | exact absurd (bit_ne.2 hh.2) (by assumption)
    refine e_round (z + 1, _, _, H') ⟨by dsimp only; omega, hv', ?_, by dsimp only; rw [List.length_append, List.length_singleton]; omega⟩ ⟨slook_to rfl (vint_to (by push_cast; rfl)), (by repeat' first | exact trivial | refine ⟨rfl, ?_⟩)⟩ (fun w hw => hw.sub (selO_sub [false, true, true, true, true] _ _ rfl)) (by dsimp only; omega)
    dsimp only
    rw [← hx3, rowR_app (f := g y.1) (y := y.1) (h := (e : Int) - y.1) (by omega) hxz hz2 hn, List.append_assoc, List.append_assoc]
  · rw [rowR_done (by omega), List.nil_append] at hx3
    exact e_round (e, x.2.1, x.2.2.1, x.2.2.2) ⟨by dsimp only; omega, hx2, hx3, by dsimp only; omega⟩ ⟨slook_to rfl (vint_to (by rfl)), (by repeat' first | exact trivial | refine ⟨rfl, ?_⟩)⟩ (fun w hw => hw) (by dsimp only; omega)
  · refine e_round (z + 1) ⟨by omega, fun i a c => ?_⟩ ⟨slook_to rfl (vint_to (by push_cast; rfl)), (by repeat' first | exact trivial | refine ⟨rfl, ?_⟩)⟩ (fun w hw => hw) (by omega)
    by_cases e0 : i = z
    · subst e0; exact ⟨by omega, bit_ne.1 h⟩
    · exact hz2 i a (by omega)
  · have hxz : x.1 < z := by omega
    have hn : ¬ (z < 16 ∧ g y.1 z = true) := fun hh => by first | omega | exact absurd (bit_ne.2 hh.2) (by assumption)
    refine e_round (z + 1, _, _, H') ⟨by dsimp only; omega, hv', ?_, by dsimp only; rw [List.length_append, List.length_singleton]; omega⟩ ⟨slook_to rfl (vint_to (by push_cast; rfl)), (by repeat' first | exact trivial | refine ⟨rfl, ?_⟩)⟩ (fun w hw => hw.sub (selO_sub [false, true, true, true, true] _ _ rfl)) (by dsimp only; omega)
    dsimp only
    rw [← hx3, rowR_app (f := g y.1) (y := y.1) (h := (e : Int) - y.1) (by omega) hxz hz2 hn, List.append_assoc, List.append_assoc]
  · have hxz : z = x.1 := by omega
    have hn : ¬ (z < 16 ∧ g y.1 z = true) := fun hh => by first | omega | exact absurd (bit_ne.2 hh.2) (by assumption)
    subst hxz
    refine e_round (x.1 + 1, x.2.1, x.2.2.1, x.2.2.2) ⟨by dsimp only; omega, hx2, ?_, by dsimp only; omega⟩ ⟨slook_to rfl (vint_to (by push_cast; rfl)), (by repeat' first | exact trivial | refine ⟨rfl, ?_⟩)⟩ (fun w hw => hw) (by dsimp only; omega)
    dsimp only
    rw [← rowR_skip (f := g y.1) (y := y.1) (h := (e : Int) - y.1) (by omega) hn]; exact hx3
  · have hxz : x.1 < z := by omega
    have hn : ¬ (z < 16 ∧ g y.1 z = true) := fun hh => by first | omega | exact absurd (bit_ne.2 hh.2) (by assumption)
    refine e_round (z + 1, _, _, H') ⟨by dsimp only; omega, hv', ?_, by dsimp only; rw [List.length_append, List.length_singleton]; omega⟩ ⟨slook_to rfl (vint_to (by push_cast; rfl)), (by repeat' first | exact trivial | refine ⟨rfl, ?_⟩)⟩ (fun w hw => hw.sub (selO_sub [false, true, true, true, true] _ _ rfl)) (by dsimp only; omega)
    dsimp only
    rw [← hx3, rowR_app (f := g y.1) (y := y.1) (h := (e : Int) - y.1) (by omega) hxz hz2 hn, List.append_assoc, List.append_assoc]
  · rw [rowR_done (by omega), List.nil_append] at hx3
    exact e_round (e, x.2.1, x.2.2.1, x.2.2.2) ⟨by dsimp only; omega, hx2, hx3, by dsimp only; omega⟩ ⟨slook_to rfl (vint_to (by rfl)), (by repeat' first | exact trivial | refine ⟨rfl, ?_⟩)⟩ (fun w hw => hw) (by dsimp only; omega)
  · have e0 : y.1 = 16 := by omega
    rw [e0, canonR_done (by omega), List.append_nil] at hy3
    rw [hy3] at hy2
    exact s_leaveSF rfl rfl rfl fwA (fun w hw => ⟨_, _, rfl, ⟨_, rfl, hy2⟩, hw.toFresh (H := y.2.2.2) gpA⟩)
end Go.Proofs.YtakijgpoaeggnaaGreat
/-
  Contracts: the reference's grids.
-/
set_option linter.unusedVariables false
namespace Go.Proofs.YtakijgpoaeggnaaGreat
open Go Sx
attribute [local irreducible] Exit.then Exit.inBlock bodyPost
theorem putG_put (g : Grid) (y x : Nat) : Grid.put g y x true = putG g y x := rfl
theorem boxG_put {r : DRect} {old : Grid} {j i : Nat} (h0 : 0 ≤ r.X ∧ 0 ≤ r.Y) (hx : r.X + r.W ≤ 16) (hy : r.Y + r.H ≤ 16) (hi : (i : Int) < r.W) (hj : (j : Int) < r.H) :
    (gvals (boxG r old j i)).set ((r.Y + (j : Int)) * 16 + (r.X + (i : Int))).toNat true = gvals (boxG r old j (i + 1)) := by
  rw [show ((r.Y + (j : Int)) * 16 + (r.X + (i : Int))).toNat = (r.Y + j).toNat * 16 + (r.X + i).toNat by omega, gvals_set _ (by omega) (by omega), putG_put, gvals_congr (boxG_next h0 hi)]
set_option maxHeartbeats 2000000 in
set_option maxRecDepth 1000000 in
theorem c_l03Grid (v : Value) (l : List DRect) (W : World) (hv : RRects W v l) : SYieldsF Tryz.prog 169 #[v] (fun u H => OBools u (gvals (points l)) H) W := by
  have hv' := hv.form
  obtain ⟨_, _, rfl⟩ := hv'
  have hll := hv.len
  have hin := fun k => inter_screen_in (l.getD k DRect.zero)
  have hgl := fun g => gvals_length g
  have hzero : (List.replicate 256 false) = gvals (points (l.take 0)) := by
    exact (List.eq_replicate_iff.2 ⟨by simp [gvals], fun c hc => by obtain ⟨q, _, rfl⟩ := List.mem_map.1 hc; rfl⟩).symm
  (first | apply SYields.mk | apply SYieldsF.mk | skip); refine s_enter Tryz.func169 rfl Tryz.ntmps169 rfl ?_
  repeat' (first | exact rfl | (apply kO; (first | exact ov_pure rfl | (apply kOBin; (first | exact aBin | exact (ov_add rfl rfl (by have := hin k.1; omega)) | exact (ov_mul rfl rfl (by have := hin k.1; omega)))) | (apply kOCall; (first | (apply kCallF; (first | exact (ov_call rfl (fun w hw => c_sintersect (l.getD k.1 DRect.zero) DRect.screen w)))) | (apply kCallB; (first | exact aBlt | exact aLenR)))) | (apply kOLoad; (first | exact (ov_ldR (fun w hw => RRow.keep hv (hw.cells rfl)) rfl rfl (by omega) rfl) | exact aLdF | exact aLdR)) | exact ov_fieldAddr rfl | (apply kOIdx; (first | exact (ov_idxR (fun w hw => OBools.rd (by assumption) (hfA hw)) rfl rfl (by rw [hgl]; have := hin k.1; omega)) | exact aIdx)) | exact aRest | exact aNew | exact (ov_field1 (ft := 31) rfl rfl rfl rfl))) | (refine kN ?_; (first | (refine kStore ?_; (first | (refine s_setB _ rfl rfl (by assumption) gpA (by rw [hgl]; have := hin k.1; omega) (fun H' hu => ?_)) | refine s_store1 _ rfl rfl gpA rfl (by rfl) ?_ | refine s_storeS _ rfl rfl gpA rfl rfl (by rfl) ?_ | refine s_storeS _ rfl rfl gpA rfl (ones_img oiA) (by rfl) ?_)) | refine s_boxS rfl rfl (fun b hb => ?_) | refine s_allocS rfl (fun b hb => ?_) | refine s_box1 rfl rfl rfl (fun b hb => ?_) | refine s_alloc1 rfl rfl (fun b hb => ?_) | (refine kWMake ?_; (refine s_make1 rfl rfl rfl ⟨by omega, by omega, by omega⟩ (by omega) rfl (fun b hb => ?_))) | refine s_buildSlice0 rfl (fun b hb => ?_) | refine s_buildSlice rfl rfl rfl rfl rfl (fun b hb => ?_) | apply s_step)) | (refine kG ?_; (first | refine s_gyes rfl rfl rfl ?_ | refine s_gno rfl rfl rfl rfl rfl ?_ | ((first | refine s_split_d rfl rfl (fun h => ?_) (fun h => ?_) | refine s_split_n rfl rfl (fun h => ?_) (fun h => ?_)) <;> (try (first | contradiction | (exfalso; omega)))) | refine s_split_nb rfl rfl (fun h => ?_) (fun h => ?_) | refine s_split rfl rfl (fun h => ?_) (fun h => ?_))) | (refine kS ?_; (first | refine h_exec rfl ?_ | refine h_take_nil rfl rfl rfl ?_ | refine h_take_pick rfl rfl rfl ?_ | refine h_nil ?_ | refine h_alt ?_ ?_ | apply h_take)) | (refine kBack ?_; (first | refine h_back_last rfl ?_ | refine h_backN rfl subA ?_)) | refine l_then ?_ | (refine kC ?_; (first | (refine kReg 6 ?_; refine c_regionSN (SPlan.take 0 (SPlan.take 1 (SPlan.take 2 (SPlan.take 3 (SPlan.take 4 ((SPlan.run 5 (SPlan.run 6 (SPlan.run 7 SPlan.done))).alt (SPlan.run 6 (SPlan.run 5 (SPlan.run 7 SPlan.done))))))))) (some 7) rfl rfl (by decide +kernel) ?_) | (refine kReg 6 ?_; refine c_regionSN (SPlan.take 0 (SPlan.take 1 (SPlan.take 2 (SPlan.take 3 (SPlan.take 4 ((SPlan.run 5 (SPlan.run 6 (SPlan.run 7 SPlan.done))).alt (SPlan.run 6 (SPlan.run 5 (SPlan.run 7 SPlan.done))))))))) none rfl rfl (by decide +kernel) ?_) | (refine c_loopV (ι := Nat × SPiece) (fun k => k.1 ≤ l.length ∧ OBools _ (gvals (points (l.take k.1))) k.2) (fun k => [(5, .int .i64 (k.1 : Int))]) (fun k => [_, k.2]) (fun k => l.length - k.1) (0, _) ⟨by dsimp only; omega, by dsimp only; rw [← hzero]; exact OBools.full _ false (by unfold maxLen; omega)⟩ rfl (fun _ => rfl) ⟨rfl, trivial⟩ (fun w hw => hw) (fun k hk => ?_); obtain ⟨hk1, hk2⟩ := hk) | (refine c_loopV (ι := Nat × SPiece) (fun j => (j.1 : Int) ≤ ((l.getD k.1 DRect.zero).inter DRect.screen).H ∧ OBools _ (gvals (boxG ((l.getD k.1 DRect.zero).inter DRect.screen) (points (l.take k.1)) j.1 0)) j.2) (fun j => [(7, .int .i64 (((l.getD k.1 DRect.zero).inter DRect.screen).Y + (j.1 : Int)))]) (fun j => [_, _, j.2]) (fun j => ((l.getD k.1 DRect.zero).inter DRect.screen).H.toNat - j.1) (0, _) ⟨by have := hin k.1; dsimp only; omega, by rw [gvals_congr (boxG_zero _ _)]; exact hk2⟩ rfl (fun _ => rfl) ⟨slook_to rfl (vint_to (by simp)), trivial⟩ (fun w hw => hw) (fun j hj => ?_); obtain ⟨hj1, hj2⟩ := hj) | (refine c_loopV (ι := Nat × SPiece) (fun i => (i.1 : Int) ≤ ((l.getD k.1 DRect.zero).inter DRect.screen).W ∧ OBools _ (gvals (boxG ((l.getD k.1 DRect.zero).inter DRect.screen) (points (l.take k.1)) j.1 i.1)) i.2) (fun i => [(8, .int .i64 (((l.getD k.1 DRect.zero).inter DRect.screen).X + (i.1 : Int)))]) (fun i => [_, _, i.2]) (fun i => ((l.getD k.1 DRect.zero).inter DRect.screen).W.toNat - i.1) (0, _) ⟨by have := hin k.1; dsimp only; omega, hj2⟩ rfl (fun _ => rfl) ⟨slook_to rfl (vint_to (by simp)), trivial⟩ (fun w hw => hw) (fun i hi => ?_); obtain ⟨hi1, hi2⟩ := hi) | refine c_seq ?_ | refine c_regionN rfl ?_ | refine c_ret ?_ | (refine kCond ?_; (first | refine c_cond_t rfl ?_ | refine c_cond_f rfl ?_ | ((first | refine c_cond_d rfl (fun h => ?_) (fun h => ?_) | refine c_cond_n rfl (fun h => ?_) (fun h => ?_)) <;> (try (first | contradiction | (exfalso; omega)))) | refine c_cond_nb rfl (fun h => ?_) (fun h => ?_) | refine c_cond rfl (fun h => ?_) (fun h => ?_))) | refine c_block ?_ | refine c_skip ?_ | refine c_exit ?_ | refine c_regionQN rfl rfl (by decide +kernel) ?_)) | apply s_stepQ | (refine kQG ?_; (first | refine s_gyesQ rfl rfl rfl ?_ | refine s_gnoQ rfl rfl rfl rfl rfl ?_ | ((first | refine s_splitQ_d rfl rfl (fun h => ?_) (fun h => ?_) | refine s_splitQ_n rfl rfl (fun h => ?_) (fun h => ?_)) <;> (try (first | contradiction | (exfalso; omega)))) | refine s_splitQ_nb rfl rfl (fun h => ?_) (fun h => ?_) | refine s_splitQ rfl rfl (fun h => ?_) (fun h => ?_))) | refine lQ_then ?_ | refine lQ_ends ?_ | (refine kE ?_; (first | refine e_then_r ?_ | refine e_block_r ?_ | refine e_then_n ?_ | refine e_then_x ?_ | refine e_block_n ?_ | refine e_block_x ?_ | refine e_block_y rfl ?_)) | refine l_ends ?_)
  · have hk0 := hin k.1
    rw [boxG_put ⟨by omega, by omega⟩ (by omega) (by omega) (by omega) (by omega)] at hu
    exact e_round (i.1 + 1, H') ⟨by dsimp only; omega, hu⟩ ⟨slook_to rfl (vint_to (by push_cast; omega)), (by repeat' first | exact trivial | refine ⟨rfl, ?_⟩)⟩ (fun w hw => hw) (by dsimp only; omega)
  · have hk0 := hin k.1
    rw [gvals_congr (boxG_row (by omega))] at hi2
    exact e_round (j.1 + 1, i.2) ⟨by dsimp only; omega, hi2⟩ ⟨slook_to rfl (vint_to (by push_cast; omega)), (by repeat' first | exact trivial | refine ⟨rfl, ?_⟩)⟩ (fun w hw => hw) (by dsimp only; omega)
  · have hk0 := hin k.1
    have hok : ((l.getD k.1 DRect.zero).inter DRect.screen).ok := by unfold DRect.ok; omega
    rw [gvals_congr ((boxG_all hok (by omega)).trans (points_take_screen (by omega)))] at hj2
    exact e_round (k.1 + 1, j.2) ⟨by dsimp only; omega, hj2⟩ ⟨slook_to rfl (vint_to (by push_cast; rfl)), (by repeat' first | exact trivial | refine ⟨rfl, ?_⟩)⟩ (fun w hw => hw.sub (selO_sub [false, true, true] _ _ rfl)) (by dsimp only; omega)
  · have hk0 := hin k.1
    rw [boxG_put ⟨by omega, by omega⟩ (by omega) (by omega) (by omega) (by omega)] at hu
    exact e_round (i.1 + 1, H') ⟨by dsimp only; omega, hu⟩ ⟨slook_to rfl (vint_to (by push_cast; omega)), (by repeat' first | exact trivial | refine ⟨rfl, ?_⟩)⟩ (fun w hw => hw) (by dsimp only; omega)
  · have hk0 := hin k.1
    rw [gvals_congr (boxG_row (by omega))] at hi2
    exact e_round (j.1 + 1, i.2) ⟨by dsimp only; omega, hi2⟩ ⟨slook_to rfl (vint_to (by push_cast; omega)), (by repeat' first | exact trivial | refine ⟨rfl, ?_⟩)⟩ (fun w hw => hw) (by dsimp only; omega)
  · have hk0 := hin k.1
    have hok : ((l.getD k.1 DRect.zero).inter DRect.screen).ok := by unfold DRect.ok; omega
    rw [gvals_congr ((boxG_all hok (by omega)).trans (points_take_screen (by omega)))] at hj2
    exact e_round (k.1 + 1, j.2) ⟨by dsimp only; omega, hj2⟩ ⟨slook_to rfl (vint_to (by push_cast; rfl)), (by repeat' first | exact trivial | refine ⟨rfl, ?_⟩)⟩ (fun w hw => hw.sub (selO_sub [false, true, true] _ _ rfl)) (by dsimp only; omega)
  · have e : k.1 = l.length := by omega
    rw [e, List.take_length] at hk2
    exact s_leave1 rfl rfl (fun w hw => ⟨_, _, rfl, hk2, hw.toFresh (H := k.2) gpA⟩)
end Go.Proofs.YtakijgpoaeggnaaGreat
/-
  Contract: the canonical form of a grid, by the reference.
-/
set_option linter.unusedVariables false
namespace Go.Proofs.YtakijgpoaeggnaaGreat
open Go Sx
attribute [local irreducible] Exit.then Exit.inBlock bodyPost
theorem sameRow_true {g : Grid} {y z : Nat} (h : ∀ i, i < 16 → g z i = g y i) : sameRow g y z = true := sameRow_iff.2 h
theorem sameRow_false {g : Grid} {y z i : Nat} (hi : i < 16) (h : g z i ≠ g y i) : sameRow g y z = false := by
  cases e : sameRow g y z
  · rfl
  · exact absurd (sameRow_iff.1 e i hi) h
theorem gv_at (g : Grid) {y : Nat} {x : Nat} (hy : y < 16) (hx : x < 16) : (gvals g).getD ((y : Int) * 16 + (x : Int)).toNat false = g y x := by
  rw [show ((y : Int) * 16 + (x : Int)).toNat = y * 16 + x by omega]; exact gvals_at g hy hx
set_option maxRecDepth 1000000 in
theorem c_l03Row (v : Value) (g : Grid) (y z : Nat) (W : World) (hy : y < 16) (hz : z < 16) (hv : RBools W v (gvals g)) : SYields Tryz.prog 181 #[v, .int .i64 (y : Int), .int .i64 (z : Int)] (.bool (sameRow g y z)) W := by
  have hgl := gvals_length g
  have hv' := hv.form
  obtain ⟨_, _, rfl⟩ := hv'
  (first | apply SYields.mk | apply SYieldsF.mk | skip); refine s_enter Tryz.func181 rfl Tryz.ntmps181 rfl ?_
  repeat' (first | exact rfl | (apply kO; (first | exact ov_pure rfl | (apply kOBin; (first | exact aBin)) | (apply kOCall; (first | (apply kCallB; (first | exact aBlt | exact aLenR)))) | (apply kOLoad; (first | exact (ov_ldR0 (fun w hw => RRow.keep hv (hw.cells rfl)) rfl rfl (by rw [hgl]; omega) rfl) | exact aLdF | exact aLdR)) | exact ov_fieldAddr rfl | (apply kOIdx; (first | exact (ov_idxR (fun w hw => RRow.keep hv (hw.cells rfl)) rfl rfl (by rw [hgl]; omega)) | exact aIdx)) | exact aRest | exact aNew | exact (ov_field1 (ft := 31) rfl rfl rfl rfl))) | (refine kN ?_; (first | (refine kStore ?_; (first | refine s_store1 _ rfl rfl gpA rfl (by rfl) ?_ | refine s_storeS _ rfl rfl gpA rfl rfl (by rfl) ?_ | refine s_storeS _ rfl rfl gpA rfl (ones_img oiA) (by rfl) ?_)) | refine s_boxS rfl rfl (fun b hb => ?_) | refine s_allocS rfl (fun b hb => ?_) | refine s_box1 rfl rfl rfl (fun b hb => ?_) | refine s_alloc1 rfl rfl (fun b hb => ?_) | refine s_buildSlice0 rfl (fun b hb => ?_) | refine s_buildSlice rfl rfl rfl rfl rfl (fun b hb => ?_) | apply s_step)) | (refine kG ?_; (first | refine s_gyes rfl rfl rfl ?_ | refine s_gno rfl rfl rfl rfl rfl ?_ | ((first | refine s_split_d rfl rfl (fun h => ?_) (fun h => ?_) | refine s_split_n rfl rfl (fun h => ?_) (fun h => ?_)) <;> (try (first | contradiction | (exfalso; omega)))) | refine s_split_nb rfl rfl (fun h => ?_) (fun h => ?_) | refine s_split rfl rfl (fun h => ?_) (fun h => ?_))) | refine l_then ?_ | (refine kC ?_; (first | (refine c_loopV (ι := Nat) (fun x => x ≤ 16 ∧ ∀ i, i < x → g z i = g y i) (fun x => [(7, .int .i64 (x : Int))]) (fun _ => []) (fun x => 16 - x) 0 ⟨by omega, fun i hi => by omega⟩ rfl (fun _ => rfl) ⟨rfl, trivial⟩ (fun w hw => hw) (fun x hx => ?_)) | refine c_seq ?_ | refine c_regionN rfl ?_ | refine c_ret ?_ | (refine kCond ?_; (first | refine c_cond_t rfl ?_ | refine c_cond_f rfl ?_ | ((first | refine c_cond_d rfl (fun h => ?_) (fun h => ?_) | refine c_cond_n rfl (fun h => ?_) (fun h => ?_)) <;> (try (first | contradiction | (exfalso; omega)))) | refine c_cond_nb rfl (fun h => ?_) (fun h => ?_) | refine c_cond rfl (fun h => ?_) (fun h => ?_))) | refine c_block ?_ | refine c_skip ?_ | refine c_exit ?_ | refine c_regionQN rfl rfl (by decide +kernel) ?_)) | apply s_stepQ | (refine kQG ?_; (first | refine s_gyesQ rfl rfl rfl ?_ | refine s_gnoQ rfl rfl rfl rfl rfl ?_ | ((first | refine s_splitQ_d rfl rfl (fun h => ?_) (fun h => ?_) | refine s_splitQ_n rfl rfl (fun h => ?_) (fun h => ?_)) <;> (try (first | contradiction | (exfalso; omega)))) | refine s_splitQ_nb rfl rfl (fun h => ?_) (fun h => ?_) | refine s_splitQ rfl rfl (fun h => ?_) (fun h => ?_))) | refine lQ_then ?_ | refine lQ_ends ?_ | (refine kE ?_; (first | refine e_then_r ?_ | refine e_block_r ?_ | refine e_then_n ?_ | refine e_then_x ?_ | refine e_block_n ?_ | refine e_block_x ?_ | refine e_block_y rfl ?_)) | refine l_ends ?_)
  · rw [gv_at g hy (by omega), gv_at g hz (by omega)] at h
    exact s_leave1 rfl rfl (fun w hw => ⟨by rw [sameRow_false (g := g) (y := y) (z := z) (i := x) (by omega) (fun e => h e.symm)], hw.below⟩)
  · rw [gv_at g hy (by omega), gv_at g hz (by omega)] at h
    refine e_round (x + 1) ⟨by omega, fun i hi => ?_⟩ ⟨slook_to rfl (vint_to (by push_cast; rfl)), (by repeat' first | exact trivial | refine ⟨rfl, ?_⟩)⟩ (fun w hw => hw) (by omega)
    by_cases e : i = x
    · subst e; exact h.symm
    · exact hx.2 i (by omega)
  · exact s_leave1 rfl rfl (fun w hw => ⟨by rw [sameRow_true (g := g) (y := y) (z := z) (fun i hi => hx.2 i (by omega))], hw.below⟩)
end Go.Proofs.YtakijgpoaeggnaaGreat
/-
  Which loop is it: the number of the region that it begins with.
-/
set_option linter.unusedVariables false
namespace Go.Proofs.YtakijgpoaeggnaaGreat
open Go Sx
section
variable {P : Program} {n : Nat} {lo : SMut} {s : World} {Q : Exit → Act → World → Prop} {E : SEnv} {L : SHeap}
theorem kLoop (id : Nat) {ops : Array Oper} {dr : Bool} {y z : Code} (h : WPC P n lo s (.loop (.seq (.seq (.region id ops dr) z) y)) Q E L) : WPC P n lo s (.loop (.seq (.seq (.region id ops dr) z) y)) Q E L := h
theorem kLoopR (id : Nat) {ops : Array Oper} {dr : Bool} {z : Code} (h : WPC P n lo s (.loop (.seq (.region id ops dr) z)) Q E L) : WPC P n lo s (.loop (.seq (.region id ops dr) z)) Q E L := h
end
end Go.Proofs.YtakijgpoaeggnaaGreat
