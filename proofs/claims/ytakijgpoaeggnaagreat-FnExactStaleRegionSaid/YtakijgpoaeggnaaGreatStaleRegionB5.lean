/-
  Texts that the law stands on, part 5: KD, KE, L5, L16, L0, L22, H9.
-/
import Derived.Test.YtakijgpoaeggnaaGreatStaleRegionB4
/-
  Contracts: what the laws draw from their bytes. Only what is sure of the result is said.
-/
set_option linter.unusedVariables false
namespace Go.Proofs.YtakijgpoaeggnaaGreat
open Go Sx
attribute [local irreducible] Exit.then Exit.inBlock bodyPost
/-- the cursor: its bytes, its place, its mixed number -/
abbrev curP (bs : Value) (ci h : Int) (cb : Nat) : SPiece := [(cb, srow [bs, .int .i64 ci, .int .i64 h] 121)]
/-- the bytes are read beside the cursor -/
def NAp (cb : Nat) (bs : Value) (l : List Int) : Prop := 0 < l.length → (baseOf bs).1 ≠ cb
structure CDraw (cb : Nat) (bs : Value) (l : List Int) (w : World) : Prop where
  rd : RBytes w bs l
  ap : NAp cb bs l
/-- a draw: the cursor goes on, the value and the new memory are as Φ says -/
structure SDraw (P : Program) (f : FuncId) (args : Array Value) (cb : Nat) (bs : Value) (l : List Int) (Φ : Value → SPiece → Prop) (w : World) : Prop where
  run : ∀ (ci ch : Int), (0 ≤ ci ∧ ci ≤ l.length) → Holds w (curP bs ci ch cb) → (curP bs ci ch cb).keys.Nodup → SYieldsG P f args (curP bs ci ch cb) (fun u H' F => (∃ ci' ch' : Int, H' = curP bs ci' ch' cb ∧ 0 ≤ ci' ∧ ci' ≤ l.length) ∧ Φ u F) w
section
variable {P : Program} {n : Nat} {lo : SMut} {s : World} {ops : Array Oper} {Q : Exit → Act → World → Prop} {E : SEnv} {L : SHeap} {d : Nat} {ty : TypeId} {pos : String} {after : Array Edge} {rest : List Oper}
end
def isInt (lo hi : Int) (v : Value) : Prop := ∃ x, v = .int .i64 x ∧ lo ≤ x ∧ x ≤ hi
def isBool (v : Value) : Prop := ∃ x, v = .bool x
def xorI (i j : Int) : Int := IntKind.i64.wrap ((BitVec.ofInt 64 i ^^^ BitVec.ofInt 64 j).toNat : Int)
end Go.Proofs.YtakijgpoaeggnaaGreat
/-
  Contracts: pixels, images, modes that are drawn.
-/
set_option linter.unusedVariables false
namespace Go.Proofs.YtakijgpoaeggnaaGreat
open Go Sx
attribute [local irreducible] Exit.then Exit.inBlock bodyPost
/-- some valid image of at most m by m pixels -/
def someImg (m : Int) (u : Value) (H : SPiece) : Prop := ∃ i : DImg, i.ok ∧ i.W ≤ m ∧ i.H ≤ m ∧ OImg u i H
end Go.Proofs.YtakijgpoaeggnaaGreat
/-
  Contract: a whole scene painted by the reference.
-/
set_option linter.unusedVariables false
namespace Go.Proofs.YtakijgpoaeggnaaGreat
open Go Sx
attribute [local irreducible] Exit.then Exit.inBlock bodyPost oriented scaled pictureOf rawPicture
end Go.Proofs.YtakijgpoaeggnaaGreat
/-
  Contracts: what is covered and what can be seen, by the reference.
-/
set_option linter.unusedVariables false
namespace Go.Proofs.YtakijgpoaeggnaaGreat
open Go Sx
attribute [local irreducible] Exit.then Exit.inBlock bodyPost OVs OInts canonR rowR points Sx.canon oriented scaled pictureOf rawPicture
end Go.Proofs.YtakijgpoaeggnaaGreat
/-
  A result that is an image and a number.
-/
set_option linter.unusedVariables false
namespace Go.Proofs.YtakijgpoaeggnaaGreat
open Go Sx
/-- an image and a number -/
def OImgN (u : Value) (i : DImg) (n : Int) (H : SPiece) : Prop := ∃ d, u = .tuple #[vImg i d, .int .i64 n] ∧ OInts 3 d i.data H
/-! ### plain: the loads -/
end Go.Proofs.YtakijgpoaeggnaaGreat
/-
  Contracts: painting only what can be seen, by the reference.
-/
set_option linter.unusedVariables false
namespace Go.Proofs.YtakijgpoaeggnaaGreat
open Go Sx
attribute [local irreducible] Exit.then Exit.inBlock bodyPost OVs OInts canonR rowR points Sx.canon oriented scaled pictureOf rawPicture mapTo pvF pvN seenG coverG visibleOf coverOf gvals
theorem c_l12Screen (s : DScene) (v : Value) (W : World) : SYieldsF Tryz.prog 62 #[vScene s v] (fun u H => OReg u (canon (points [scrR s])) H) W := by
  (first | apply SYields.mk | apply SYieldsF.mk | skip); refine s_enter Tryz.func62 rfl Tryz.ntmps62 rfl ?_
  repeat' (first | exact rfl | (apply kO; (first | exact ov_pure rfl | (apply kOBin; (first | exact aBin)) | (apply kOCall; (first | (apply kCallB; (first | exact aBlt | exact aLenR)))) | (apply kOLoad; (first | exact aLdF | exact aLdR)) | exact ov_fieldAddr rfl | (apply kOIdx; (first | exact aIdx)) | exact aRest | exact aNew | exact (ov_field1 (ft := 31) rfl rfl rfl rfl))) | (refine kN ?_; (first | (refine kCall ?_; (first | (refine kWFn 130 ?_; (refine s_callF (fun u H => OReg u (canon (points [scrR s])) H) rfl (fun w hw => c_sregionOf _ [scrR s] w (ORects.rd (OVs.whole (c := cRect) (k := 4) (T := 100) (fun _ => rfl) _ [scrR s] (Nat.le_of_ble_eq_true rfl)) (hfA hw))) rfl (fun u H hu => ?_); obtain ⟨d', rfl, hu⟩ := hu)) | apply s_step)) | (refine kStore ?_; (first | (refine s_storeS _ rfl rfl gpA rfl (ones_cons (OVs.one (by assumption)) rfl) (by rfl) ?_) | refine s_store1 _ rfl rfl gpA rfl (by rfl) ?_ | refine s_storeS _ rfl rfl gpA rfl rfl (by rfl) ?_ | refine s_storeS _ rfl rfl gpA rfl (ones_img oiA) (by rfl) ?_)) | refine s_boxS rfl rfl (fun b hb => ?_) | refine s_allocS rfl (fun b hb => ?_) | refine s_box1 rfl rfl rfl (fun b hb => ?_) | refine s_alloc1 rfl rfl (fun b hb => ?_) | refine s_buildSlice0 rfl (fun b hb => ?_) | refine s_buildSlice rfl rfl rfl rfl rfl (fun b hb => ?_) | apply s_step)) | (refine kG ?_; (first | refine s_gyes rfl rfl rfl ?_ | refine s_gno rfl rfl rfl rfl rfl ?_ | ((first | refine s_split_d rfl rfl (fun h => ?_) (fun h => ?_) | refine s_split_n rfl rfl (fun h => ?_) (fun h => ?_)) <;> (try (first | contradiction | (exfalso; omega)))) | refine s_split_nb rfl rfl (fun h => ?_) (fun h => ?_) | refine s_split rfl rfl (fun h => ?_) (fun h => ?_))) | refine l_then ?_ | (refine kC ?_; (first | refine c_seq ?_ | refine c_regionN rfl ?_ | refine c_ret ?_ | (refine kCond ?_; (first | refine c_cond_t rfl ?_ | refine c_cond_f rfl ?_ | ((first | refine c_cond_d rfl (fun h => ?_) (fun h => ?_) | refine c_cond_n rfl (fun h => ?_) (fun h => ?_)) <;> (try (first | contradiction | (exfalso; omega)))) | refine c_cond_nb rfl (fun h => ?_) (fun h => ?_) | refine c_cond rfl (fun h => ?_) (fun h => ?_))) | refine c_block ?_ | refine c_skip ?_ | refine c_exit ?_ | refine c_regionQN rfl rfl (by decide +kernel) ?_)) | apply s_stepQ | (refine kQG ?_; (first | refine s_gyesQ rfl rfl rfl ?_ | refine s_gnoQ rfl rfl rfl rfl rfl ?_ | ((first | refine s_splitQ_d rfl rfl (fun h => ?_) (fun h => ?_) | refine s_splitQ_n rfl rfl (fun h => ?_) (fun h => ?_)) <;> (try (first | contradiction | (exfalso; omega)))) | refine s_splitQ_nb rfl rfl (fun h => ?_) (fun h => ?_) | refine s_splitQ rfl rfl (fun h => ?_) (fun h => ?_))) | refine lQ_then ?_ | refine lQ_ends ?_ | (refine kE ?_; (first | refine e_then_r ?_ | refine e_block_r ?_ | refine e_then_n ?_ | refine e_then_x ?_ | refine e_block_n ?_ | refine e_block_x ?_ | refine e_block_y rfl ?_)) | refine l_ends ?_)
  all_goals (refine kE ?_; refine s_leaveSF rfl rfl rfl fwA (fun w hw => ?_))
  all_goals exact ⟨_, _, rfl, ⟨_, rfl, hu⟩, hw.toFresh (H := H) gpA⟩
end Go.Proofs.YtakijgpoaeggnaaGreat
/-
  Contracts: the stale part of a buffer, by the reference.
-/
set_option linter.unusedVariables false
namespace Sx
theorem st_union {g : Grid} {d : List DRect} (h : regionOk d) : unionOf (canon g) d = canon (g.or (points d)) := by
  unfold unionOf
  rw [if_pos ⟨regionOk_canon g, h⟩]
  exact canon_congr (fun y x hy hx => by
    show (_ || _) = (_ || _)
    rw [points_canon g y x hy hx])
theorem st_dam {c : DChain} (h : c.ok) {j : Nat} (hj : j < c.dams.length) : regionOk (c.dams.getD j []) := h.2.2.2.2.2 j hj
end Sx
namespace Go.Proofs.YtakijgpoaeggnaaGreat
open Go Sx
attribute [local irreducible] Exit.then Exit.inBlock bodyPost OVs OInts OElems DChain.ok DScene.ok canonR rowR points Sx.canon Sx.damageOf unionOf
set_option maxHeartbeats 4000000 in
theorem c_sunionOf (va vb : Value) (a c : List DRect) (W : World) (ha : RRects W va a) (hc : RRects W vb c) : SYieldsF Tryz.prog 64 #[vReg va, vReg vb] (fun u H => OReg u (unionOf a c) H) W := by
  have f1 := RRects.one ha
  have f2 := RRects.one hc
  (first | apply SYields.mk | apply SYieldsF.mk | skip); refine s_enter Tryz.func64 rfl Tryz.ntmps64 rfl ?_
  repeat' (first | exact rfl | (apply kO; (first | exact ov_pure rfl | (apply kOBin; (first | exact aBin)) | (apply kOCall; (first | (apply kCallB; (first | exact aBlt | exact aLenR)))) | (apply kOLoad; (first | exact aLdF | exact aLdR)) | exact ov_fieldAddr rfl | (apply kOIdx; (first | exact aIdx)) | exact aRest | exact aNew | exact (ov_field1 (ft := 31) rfl rfl rfl rfl))) | (refine kN ?_; (first | (refine kCall ?_; (first | (refine kWFn 132 ?_; (refine s_callF (fun u H => OReg u (unionOf a c) H) rfl (fun w hw => by rw [← joinOf_zero]; exact c_l03Join _ _ a c 0 w (ha.keep (hw.cells rfl)) (hc.keep (hw.cells rfl))) rfl (fun u H hu => ?_); obtain ⟨d', rfl, hu⟩ := hu)) | apply s_step)) | (refine kStore ?_; (first | (refine s_storeS _ rfl rfl gpA rfl (ones_cons (OVs.one (by assumption)) rfl) (by rfl) ?_) | refine s_store1 _ rfl rfl gpA rfl (by rfl) ?_ | refine s_storeS _ rfl rfl gpA rfl rfl (by rfl) ?_ | refine s_storeS _ rfl rfl gpA rfl (ones_img oiA) (by rfl) ?_)) | refine s_boxS rfl rfl (fun b hb => ?_) | refine s_allocS rfl (fun b hb => ?_) | refine s_box1 rfl rfl rfl (fun b hb => ?_) | refine s_alloc1 rfl rfl (fun b hb => ?_) | refine s_buildSlice0 rfl (fun b hb => ?_) | refine s_buildSlice rfl rfl rfl rfl rfl (fun b hb => ?_) | apply s_step)) | (refine kG ?_; (first | refine s_gyes rfl rfl rfl ?_ | refine s_gno rfl rfl rfl rfl rfl ?_ | ((first | refine s_split_d rfl rfl (fun h => ?_) (fun h => ?_) | refine s_split_n rfl rfl (fun h => ?_) (fun h => ?_)) <;> (try (first | contradiction | (exfalso; omega)))) | refine s_split_nb rfl rfl (fun h => ?_) (fun h => ?_) | refine s_split rfl rfl (fun h => ?_) (fun h => ?_))) | refine l_then ?_ | (refine kC ?_; (first | refine c_seq ?_ | refine c_regionN rfl ?_ | refine c_ret ?_ | (refine kCond ?_; (first | refine c_cond_t rfl ?_ | refine c_cond_f rfl ?_ | ((first | refine c_cond_d rfl (fun h => ?_) (fun h => ?_) | refine c_cond_n rfl (fun h => ?_) (fun h => ?_)) <;> (try (first | contradiction | (exfalso; omega)))) | refine c_cond_nb rfl (fun h => ?_) (fun h => ?_) | refine c_cond rfl (fun h => ?_) (fun h => ?_))) | refine c_block ?_ | refine c_skip ?_ | refine c_exit ?_ | refine c_regionQN rfl rfl (by decide +kernel) ?_)) | apply s_stepQ | (refine kQG ?_; (first | refine s_gyesQ rfl rfl rfl ?_ | refine s_gnoQ rfl rfl rfl rfl rfl ?_ | ((first | refine s_splitQ_d rfl rfl (fun h => ?_) (fun h => ?_) | refine s_splitQ_n rfl rfl (fun h => ?_) (fun h => ?_)) <;> (try (first | contradiction | (exfalso; omega)))) | refine s_splitQ_nb rfl rfl (fun h => ?_) (fun h => ?_) | refine s_splitQ rfl rfl (fun h => ?_) (fun h => ?_))) | refine lQ_then ?_ | refine lQ_ends ?_ | (refine kE ?_; (first | refine e_then_r ?_ | refine e_block_r ?_ | refine e_then_n ?_ | refine e_then_x ?_ | refine e_block_n ?_ | refine e_block_x ?_ | refine e_block_y rfl ?_)) | refine l_ends ?_)
  all_goals (refine kE ?_; refine s_leaveSF rfl rfl rfl fwA (fun w hw => ?_))
  all_goals exact ⟨_, _, rfl, ⟨_, rfl, hu⟩, hw.toFresh (H := H) gpA⟩
set_option maxHeartbeats 8000000 in
theorem c_sstaleRegion (c : DChain) (s : DScene) (k : Int) (vb va vd vs v : Value) (W : World) (hc : RCh W c vb va vd vs) (hv : RS eSurf W v s.ss) : SYieldsF Tryz.prog 21 #[vChain c vb va vd vs, .int .i64 k, vScene s v] (fun u H => OReg u (staleRegion c k s) H) W := by
  have hcc := hc
  obtain ⟨r1, r2, r3, r4⟩ := hc
  obtain ⟨db, r1⟩ := r1
  obtain ⟨dd, r3⟩ := r3
  have f1 := r1.form
  obtain ⟨b1, b2, rfl⟩ := f1
  have f2 := r2.form
  obtain ⟨a1, a2, rfl⟩ := f2
  have f3 := r3.form
  obtain ⟨d1, d2, rfl⟩ := f3
  have hbl := r1.row.len
  have hal := r2.len
  have hdl := r3.row.len
  by_cases hok : c.ok ∧ s.ok ∧ sameSize s c.scene ∧ 0 ≤ k ∧ k < c.bufs.length
  · have hsz : s.W = c.scene.W ∧ s.H = c.scene.H := hok.2.2.1
    have hkk := hok.2.2.2
    have hages : c.ages.length = c.bufs.length := chain_lens hok.1
    have hage := (chain_at hok.1 (j := k.toNat) (by omega)).2.2.2.1
    by_cases h0 : c.ages.getD k.toNat 0 = 0
    · have hst : staleRegion c k s = canon (points [scrR s]) := by unfold staleRegion staleR; rw [if_pos hok, if_pos (show c.age k.toNat = 0 from h0), points_one]; rfl
      rw [hst]
      (first | apply SYields.mk | apply SYieldsF.mk | skip); refine s_enter Tryz.func21 rfl Tryz.ntmps21 rfl ?_
      repeat' (first | exact rfl | (apply kO; (first | exact ov_pure rfl | (apply kOBin; (first | exact aBin)) | (apply kOCall; (first | (apply kCallF; (first | exact (ov_call rfl (fun w hw => c_schainOk c _ _ _ _ w (hcc.keep (hw.cells rfl)))) | exact (ov_call rfl (fun w hw => c_ssceneOk s _ w (hv.keep (hw.cells rfl)))))) | (apply kCallB; (first | exact aBlt | exact (ov_lenR (fun w hw => r1.row.keep (hw.cells rfl)) rfl) | exact aLenR)))) | (apply kOLoad; (first | exact (ov_ldR0 (fun w hw => r2.keep (hw.cells rfl)) rfl rfl (by omega) rfl) | exact aLdF | exact aLdR)) | exact ov_fieldAddr rfl | (apply kOIdx; (first | exact (ov_idxR (fun w hw => r2.keep (hw.cells rfl)) rfl rfl (by omega)) | exact aIdx)) | exact aRest | exact aNew | exact (ov_field1 (ft := 31) rfl rfl rfl rfl))) | (refine kN ?_; (first | (refine kCall ?_; (first | (refine kWFn 62 ?_; (refine s_callF (fun u H => OReg u (canon (points [scrR s])) H) rfl (fun w hw => c_l12Screen s _ w) rfl (fun u H hu => ?_); obtain ⟨d', rfl, hu⟩ := hu)) | apply s_step)) | (refine kStore ?_; (first | (refine s_storeS _ rfl rfl gpA rfl (ones_cons (OVs.one (by assumption)) rfl) (by rfl) ?_) | refine s_store1 _ rfl rfl gpA rfl (by rfl) ?_ | refine s_storeS _ rfl rfl gpA rfl rfl (by rfl) ?_ | refine s_storeS _ rfl rfl gpA rfl (ones_img oiA) (by rfl) ?_)) | refine s_boxS rfl rfl (fun b hb => ?_) | refine s_allocS rfl (fun b hb => ?_) | refine s_box1 rfl rfl rfl (fun b hb => ?_) | refine s_alloc1 rfl rfl (fun b hb => ?_) | refine s_buildSlice0 rfl (fun b hb => ?_) | refine s_buildSlice rfl rfl rfl rfl rfl (fun b hb => ?_) | apply s_step)) | (refine kG ?_; (first | refine s_gyes rfl rfl rfl ?_ | refine s_gno rfl rfl rfl rfl rfl ?_ | ((first | refine s_split_d rfl rfl (fun h => ?_) (fun h => ?_) | refine s_split_n rfl rfl (fun h => ?_) (fun h => ?_)) <;> (try (first | contradiction | (exfalso; omega) | (exfalso; exact absurd hok.1 (by assumption)) | (exfalso; exact absurd hok.2.1 (by assumption)) | (exfalso; (exfalso; omega))))) | refine s_split_nb rfl rfl (fun h => ?_) (fun h => ?_) | refine s_split rfl rfl (fun h => ?_) (fun h => ?_))) | refine l_then ?_ | (refine kC ?_; (first | refine c_seq ?_ | refine c_regionN rfl ?_ | refine c_ret ?_ | (refine kCond ?_; (first | refine c_cond_t rfl ?_ | refine c_cond_f rfl ?_ | ((first | refine c_cond_d rfl (fun h => ?_) (fun h => ?_) | refine c_cond_n rfl (fun h => ?_) (fun h => ?_)) <;> (try (first | contradiction | (exfalso; omega) | (exfalso; exact absurd hok.1 (by assumption)) | (exfalso; exact absurd hok.2.1 (by assumption)) | (exfalso; (exfalso; omega))))) | refine c_cond_nb rfl (fun h => ?_) (fun h => ?_) | refine c_cond rfl (fun h => ?_) (fun h => ?_))) | refine c_block ?_ | refine c_skip ?_ | refine c_exit ?_ | refine c_regionQN rfl rfl (by decide +kernel) ?_)) | apply s_stepQ | (refine kQG ?_; (first | refine s_gyesQ rfl rfl rfl ?_ | refine s_gnoQ rfl rfl rfl rfl rfl ?_ | ((first | refine s_splitQ_d rfl rfl (fun h => ?_) (fun h => ?_) | refine s_splitQ_n rfl rfl (fun h => ?_) (fun h => ?_)) <;> (try (first | contradiction | (exfalso; omega) | (exfalso; exact absurd hok.1 (by assumption)) | (exfalso; exact absurd hok.2.1 (by assumption)) | (exfalso; (exfalso; omega))))) | refine s_splitQ_nb rfl rfl (fun h => ?_) (fun h => ?_) | refine s_splitQ rfl rfl (fun h => ?_) (fun h => ?_))) | refine lQ_then ?_ | refine lQ_ends ?_ | (refine kE ?_; (first | refine e_then_r ?_ | refine e_block_r ?_ | refine e_then_n ?_ | refine e_then_x ?_ | refine e_block_n ?_ | refine e_block_x ?_ | refine e_block_y rfl ?_)) | refine l_ends ?_)
      all_goals exact s_leaveSF rfl rfl rfl fwA (fun w hw => ⟨_, _, rfl, ⟨_, rfl, hu⟩, hw.toFresh (H := H) gpA⟩)
    · have hst : staleRegion c k s = canon (staleG c k.toNat s) := by unfold staleRegion staleR; rw [if_pos hok, if_neg (show ¬ c.age k.toNat = 0 from h0)]
      obtain ⟨m, hm⟩ : ∃ m : Nat, (c.ages.getD k.toNat 0 - 1).toNat = m := ⟨_, rfl⟩
      have hml : m ≤ c.dams.length := by omega
      have hdo : canon (points (damageOf c.scene s)) = damageOf c.scene s := damageOf_ok _ _
      have hun := fun (j : Nat) (hj : j < c.dams.length) => (show unionOf (canon (stAcc c s j)) (c.dams.getD j []) = canon (stAcc c s (j + 1)) by rw [st_union (st_dam hok.1 hj), stAcc_succ]; rfl)
      rw [hst, ← stAcc_end c k.toNat s hm]
      (first | apply SYields.mk | apply SYieldsF.mk | skip); refine s_enter Tryz.func21 rfl Tryz.ntmps21 rfl ?_
      repeat' (first | exact rfl | (apply kO; (first | exact ov_pure rfl | (apply kOBin; (first | exact aBin)) | (apply kOCall; (first | (apply kCallF; (first | exact (ov_call rfl (fun w hw => c_schainOk c _ _ _ _ w (hcc.keep (hw.cells rfl)))) | exact (ov_call rfl (fun w hw => c_ssceneOk s _ w (hv.keep (hw.cells rfl)))))) | (apply kCallB; (first | exact aBlt | exact (ov_lenR (fun w hw => r1.row.keep (hw.cells rfl)) rfl) | exact aLenR)))) | (apply kOLoad; (first | exact (ov_ldR0 (fun w hw => r2.keep (hw.cells rfl)) rfl rfl (by omega) rfl) | exact (ov_ldRZ (fun w hw => r3.row.keep (hw.cells rfl)) rfl rfl (by omega) rfl) | exact aLdF | exact aLdR)) | exact ov_fieldAddr rfl | (apply kOIdx; (first | exact (ov_idxR (fun w hw => r2.keep (hw.cells rfl)) rfl rfl (by omega)) | exact (ov_idxR (fun w hw => r3.row.keep (hw.cells rfl)) rfl rfl (by omega)) | exact aIdx)) | exact aRest | exact aNew | exact (ov_field1 (ft := 31) rfl rfl rfl rfl))) | (refine kN ?_; (first | (refine kCall ?_; (first | (refine kWFn 63 ?_; (refine s_callF (fun u H => OReg u (damageOf c.scene s) H) rfl (fun w hw => c_sdamageOf c.scene s _ _ w (r4.keep (hw.cells rfl)) (hv.keep (hw.cells rfl))) rfl (fun u H hu => ?_); obtain ⟨d', rfl, hu⟩ := hu; have f9 := hu.form; obtain ⟨_, _, rfl⟩ := f9)) | (refine kWFn 64 ?_; (refine s_callF (fun u H => OReg u (unionOf (canon (stAcc c s j.1)) (c.dams.getD j.1 [])) H) rfl (fun w hw => c_sunionOf _ _ (canon (stAcc c s j.1)) (c.dams.getD j.1 []) w (ORects.rd hj2 (hfA hw)) (eReg.keep (r3.rd _ (by omega)) (hw.cells rfl))) rfl (fun u H hu => ?_); obtain ⟨d', rfl, hu⟩ := hu; have f9 := hu.form; obtain ⟨_, _, rfl⟩ := f9)) | apply s_step)) | (refine kStore ?_; (first | (refine s_storeS _ rfl rfl gpA rfl (ones_cons (OVs.one (by assumption)) rfl) (by rfl) ?_) | refine s_store1 _ rfl rfl gpA rfl (by rfl) ?_ | refine s_storeS _ rfl rfl gpA rfl rfl (by rfl) ?_ | refine s_storeS _ rfl rfl gpA rfl (ones_img oiA) (by rfl) ?_)) | refine s_boxS rfl rfl (fun b hb => ?_) | refine s_allocS rfl (fun b hb => ?_) | refine s_box1 rfl rfl rfl (fun b hb => ?_) | refine s_alloc1 rfl rfl (fun b hb => ?_) | refine s_buildSlice0 rfl (fun b hb => ?_) | refine s_buildSlice rfl rfl rfl rfl rfl (fun b hb => ?_) | apply s_step)) | (refine kG ?_; (first | refine s_gyes rfl rfl rfl ?_ | refine s_gno rfl rfl rfl rfl rfl ?_ | ((first | refine s_split_d rfl rfl (fun h => ?_) (fun h => ?_) | refine s_split_n rfl rfl (fun h => ?_) (fun h => ?_)) <;> (try (first | contradiction | (exfalso; omega) | (exfalso; exact absurd hok.1 (by assumption)) | (exfalso; exact absurd hok.2.1 (by assumption)) | (exfalso; (exfalso; omega))))) | refine s_split_nb rfl rfl (fun h => ?_) (fun h => ?_) | refine s_split rfl rfl (fun h => ?_) (fun h => ?_))) | (refine kS ?_; (first | refine h_exec rfl ?_ | refine h_take_nil rfl rfl rfl ?_ | refine h_take_pick rfl rfl rfl ?_ | refine h_nil ?_ | refine h_alt ?_ ?_ | apply h_take)) | (refine kBack ?_; (first | refine h_back_last rfl ?_ | refine h_backN rfl subA ?_)) | refine l_then ?_ | (refine kC ?_; (first | (refine kReg 9 ?_; refine c_regionSN (SPlan.take 0 (SPlan.take 1 (SPlan.take 2 (SPlan.take 3 (SPlan.take 4 (SPlan.take 5 (SPlan.run 6 (SPlan.run 7 SPlan.done)))))))) (some 7) rfl rfl (by decide +kernel) ?_) | (refine kReg 9 ?_; refine c_regionSN (SPlan.take 0 (SPlan.take 1 (SPlan.take 2 (SPlan.take 3 (SPlan.take 4 (SPlan.take 5 (SPlan.run 6 (SPlan.run 7 SPlan.done)))))))) none rfl rfl (by decide +kernel) ?_) | (refine kLoop 7 ?_; refine c_loopV (ι := Nat × Value × SPiece) (fun j => j.1 ≤ m ∧ ORects j.2.1 (canon (stAcc c s j.1)) j.2.2) (fun j => [(8, .int .i64 (j.1 : Int))]) (fun j => [[(_, srow [j.2.1] 43)], j.2.2, _, _, _]) (fun j => m - j.1) (0, _, _) ⟨by dsimp only; omega, by dsimp only; rw [stAcc_zero, hdo]; exact hu⟩ rfl (fun _ => rfl) ⟨rfl, trivial⟩ (fun w hw => hw) (fun j hj => ?_); obtain ⟨hj1, hj2⟩ := hj) | refine c_seq ?_ | refine c_regionN rfl ?_ | refine c_ret ?_ | (refine kCond ?_; (first | refine c_cond_t rfl ?_ | refine c_cond_f rfl ?_ | ((first | refine c_cond_d rfl (fun h => ?_) (fun h => ?_) | refine c_cond_n rfl (fun h => ?_) (fun h => ?_)) <;> (try (first | contradiction | (exfalso; omega) | (exfalso; exact absurd hok.1 (by assumption)) | (exfalso; exact absurd hok.2.1 (by assumption)) | (exfalso; (exfalso; omega))))) | refine c_cond_nb rfl (fun h => ?_) (fun h => ?_) | refine c_cond rfl (fun h => ?_) (fun h => ?_))) | refine c_block ?_ | refine c_skip ?_ | refine c_exit ?_ | refine c_regionQN rfl rfl (by decide +kernel) ?_)) | apply s_stepQ | (refine kQG ?_; (first | refine s_gyesQ rfl rfl rfl ?_ | refine s_gnoQ rfl rfl rfl rfl rfl ?_ | ((first | refine s_splitQ_d rfl rfl (fun h => ?_) (fun h => ?_) | refine s_splitQ_n rfl rfl (fun h => ?_) (fun h => ?_)) <;> (try (first | contradiction | (exfalso; omega) | (exfalso; exact absurd hok.1 (by assumption)) | (exfalso; exact absurd hok.2.1 (by assumption)) | (exfalso; (exfalso; omega))))) | refine s_splitQ_nb rfl rfl (fun h => ?_) (fun h => ?_) | refine s_splitQ rfl rfl (fun h => ?_) (fun h => ?_))) | refine lQ_then ?_ | refine lQ_ends ?_ | (refine kE ?_; (first | refine e_then_r ?_ | refine e_block_r ?_ | refine e_then_n ?_ | refine e_then_x ?_ | refine e_block_n ?_ | refine e_block_x ?_ | refine e_block_y rfl ?_)) | refine l_ends ?_)
      · exact e_round (j.1 + 1, _, H) ⟨by dsimp only; omega, by dsimp only; rw [← hun j.1 (by omega)]; exact hu⟩ ⟨slook_to rfl (vint_to (by push_cast; rfl)), (by repeat' first | exact trivial | refine ⟨rfl, ?_⟩)⟩ (fun w hw => hw.picks (by (repeat' first | exact Picks.nil | exact gp_hd | apply gp_tl | apply Picks.cons); done) (by rfl)) (by dsimp only; omega)
      · have e : j.1 = m := by omega
        rw [e] at hj2
        exact s_leaveSF rfl rfl rfl fwA (fun w hw => ⟨_, _, rfl, ⟨_, rfl, hj2⟩, hw.toFresh (H := j.2.2) gpA⟩)
  · have hst : staleRegion c k s = [] := by unfold staleRegion; rw [if_neg hok]
    rw [hst]
    (first | apply SYields.mk | apply SYieldsF.mk | skip); refine s_enter Tryz.func21 rfl Tryz.ntmps21 rfl ?_
    repeat' (first | exact rfl | (apply kO; (first | exact ov_pure rfl | (apply kOBin; (first | exact aBin)) | (apply kOCall; (first | (apply kCallF; (first | exact (ov_call rfl (fun w hw => c_schainOk c _ _ _ _ w (hcc.keep (hw.cells rfl)))) | exact (ov_call rfl (fun w hw => c_ssceneOk s _ w (hv.keep (hw.cells rfl)))))) | (apply kCallB; (first | exact aBlt | exact (ov_lenR (fun w hw => r1.row.keep (hw.cells rfl)) rfl) | exact aLenR)))) | (apply kOLoad; (first | exact aLdF | exact aLdR)) | exact ov_fieldAddr rfl | (apply kOIdx; (first | exact aIdx)) | exact aRest | exact aNew | exact (ov_field1 (ft := 31) rfl rfl rfl rfl))) | (refine kN ?_; (first | (refine kStore ?_; (first | refine s_store1 _ rfl rfl gpA rfl (by rfl) ?_ | refine s_storeS _ rfl rfl gpA rfl rfl (by rfl) ?_ | refine s_storeS _ rfl rfl gpA rfl (ones_img oiA) (by rfl) ?_)) | refine s_boxS rfl rfl (fun b hb => ?_) | refine s_allocS rfl (fun b hb => ?_) | refine s_box1 rfl rfl rfl (fun b hb => ?_) | refine s_alloc1 rfl rfl (fun b hb => ?_) | refine s_buildSlice0 rfl (fun b hb => ?_) | refine s_buildSlice rfl rfl rfl rfl rfl (fun b hb => ?_) | apply s_step)) | (refine kG ?_; (first | refine s_gyes rfl rfl rfl ?_ | refine s_gno rfl rfl rfl rfl rfl ?_ | ((first | refine s_split_d rfl rfl (fun h => ?_) (fun h => ?_) | refine s_split_n rfl rfl (fun h => ?_) (fun h => ?_)) <;> (try (first | contradiction | (exfalso; omega) | (exfalso; exact absurd ⟨by assumption, by assumption, ⟨by omega, by omega⟩, by omega, by omega⟩ hok)))) | refine s_split_nb rfl rfl (fun h => ?_) (fun h => ?_) | refine s_split rfl rfl (fun h => ?_) (fun h => ?_))) | refine l_then ?_ | (refine kC ?_; (first | refine c_seq ?_ | refine c_regionN rfl ?_ | refine c_ret ?_ | (refine kCond ?_; (first | refine c_cond_t rfl ?_ | refine c_cond_f rfl ?_ | ((first | refine c_cond_d rfl (fun h => ?_) (fun h => ?_) | refine c_cond_n rfl (fun h => ?_) (fun h => ?_)) <;> (try (first | contradiction | (exfalso; omega) | (exfalso; exact absurd ⟨by assumption, by assumption, ⟨by omega, by omega⟩, by omega, by omega⟩ hok)))) | refine c_cond_nb rfl (fun h => ?_) (fun h => ?_) | refine c_cond rfl (fun h => ?_) (fun h => ?_))) | refine c_block ?_ | refine c_skip ?_ | refine c_exit ?_ | refine c_regionQN rfl rfl (by decide +kernel) ?_)) | apply s_stepQ | (refine kQG ?_; (first | refine s_gyesQ rfl rfl rfl ?_ | refine s_gnoQ rfl rfl rfl rfl rfl ?_ | ((first | refine s_splitQ_d rfl rfl (fun h => ?_) (fun h => ?_) | refine s_splitQ_n rfl rfl (fun h => ?_) (fun h => ?_)) <;> (try (first | contradiction | (exfalso; omega) | (exfalso; exact absurd ⟨by assumption, by assumption, ⟨by omega, by omega⟩, by omega, by omega⟩ hok)))) | refine s_splitQ_nb rfl rfl (fun h => ?_) (fun h => ?_) | refine s_splitQ rfl rfl (fun h => ?_) (fun h => ?_))) | refine lQ_then ?_ | refine lQ_ends ?_ | (refine kE ?_; (first | refine e_then_r ?_ | refine e_block_r ?_ | refine e_then_n ?_ | refine e_then_x ?_ | refine e_block_n ?_ | refine e_block_x ?_ | refine e_block_y rfl ?_)) | refine l_ends ?_)
    all_goals exact s_leaveSF rfl rfl rfl fwA (fun w hw => ⟨_, [], rfl, ⟨_, rfl, OVs.nil⟩, hw.toFresh0⟩)
end Go.Proofs.YtakijgpoaeggnaaGreat
