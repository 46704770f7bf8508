/-
  Texts that the law stands on, part 4: M17, L17, L10, L11, L12, L13, KW, L18, EC, E2, M20, KD, KE, L0, E8, E3, E4, E5, E6.
-/
import Derived.Lib.Overlaps
import Derived.Test.YtfmjeakcfmmkfaaEditDamageB3
/-
  The plain functions, continued: the steps of gathering the damage. No program in sight.
-/
set_option linter.unusedVariables false
namespace Sx
theorem or_none (g : Grid) : g.or Grid.none = g := by funext y x; unfold Grid.or Grid.none; rw [Bool.or_false]
theorem or_assoc' (g p q : Grid) : (g.or p).or q = g.or (p.or q) := by funext y x; unfold Grid.or; rw [Bool.or_assoc]
theorem index_lt (l : List DSurf) (id : Int) : -1 ≤ surfaceIndex l id ∧ surfaceIndex l id < l.length := by
  rcases surfaceIndex_bd l id with ⟨h1, _⟩ | ⟨j, h1, h2, _, _⟩ <;> omega
theorem damA_neg {a b : DScene} {j : Nat} (h : surfaceIndex b.ss (a.ss.getD j default).Id < 0) : (accG (damA a b) j).or (rectG (surfRect (a.ss.getD j default))) = accG (damA a b) (j + 1) := by
  show _ = (accG (damA a b) j).or (damA a b j)
  unfold damA; rw [if_pos h]
theorem damA_same {a b : DScene} {j : Nat} (h : ¬ surfaceIndex b.ss (a.ss.getD j default).Id < 0) (e : a.ss.getD j default = b.ss.getD (surfaceIndex b.ss (a.ss.getD j default).Id).toNat default) : accG (damA a b) (j + 1) = accG (damA a b) j := by
  show (accG (damA a b) j).or (damA a b j) = _
  have : damA a b j = Grid.none := by unfold damA; rw [if_neg h, if_pos e]
  rw [this, or_none]
theorem damA_diff {a b : DScene} {j : Nat} (h : ¬ surfaceIndex b.ss (a.ss.getD j default).Id < 0) (e : ¬ a.ss.getD j default = b.ss.getD (surfaceIndex b.ss (a.ss.getD j default).Id).toNat default) :
    ((accG (damA a b) j).or (rectG (surfRect (a.ss.getD j default)))).or (rectG (surfRect (b.ss.getD (surfaceIndex b.ss (a.ss.getD j default).Id).toNat default))) = accG (damA a b) (j + 1) := by
  show _ = (accG (damA a b) j).or (damA a b j)
  have : damA a b j = (rectG (surfRect (a.ss.getD j default))).or (rectG (surfRect (b.ss.getD (surfaceIndex b.ss (a.ss.getD j default).Id).toNat default))) := by unfold damA; rw [if_neg h, if_neg e]
  rw [this, or_assoc']
/-- both parts: after i surfaces of the second scene -/
def dB (a b : DScene) (i : Nat) : Grid := (accG (damA a b) a.ss.length).or (accG (damB a b) i)
theorem dB_zero (a b : DScene) : dB a b 0 = accG (damA a b) a.ss.length := or_none _
theorem dB_neg {a b : DScene} {i : Nat} (h : surfaceIndex a.ss (b.ss.getD i default).Id < 0) : (dB a b i).or (rectG (surfRect (b.ss.getD i default))) = dB a b (i + 1) := by
  unfold dB
  rw [or_assoc']
  show _ = Grid.or _ ((accG (damB a b) i).or (damB a b i))
  have : damB a b i = rectG (surfRect (b.ss.getD i default)) := by unfold damB; rw [if_pos h]
  rw [this]
theorem dB_in {a b : DScene} {i : Nat} (h : ¬ surfaceIndex a.ss (b.ss.getD i default).Id < 0) : (dB a b i).or (accG (damC a b i) i) = dB a b (i + 1) := by
  unfold dB
  rw [or_assoc']
  show _ = Grid.or _ ((accG (damB a b) i).or (damB a b i))
  have : damB a b i = accG (damC a b i) i := by unfold damB; rw [if_neg h]
  rw [this]
def dC (a b : DScene) (i k : Nat) : Grid := (dB a b i).or (accG (damC a b i) k)
theorem dC_zero (a b : DScene) (i : Nat) : dC a b i 0 = dB a b i := or_none _
theorem dC_yes {a b : DScene} {i k : Nat} (h : surfaceIndex a.ss (b.ss.getD i default).Id < surfaceIndex a.ss (b.ss.getD k default).Id) : (dC a b i k).or (rectG ((surfRect (b.ss.getD i default)).inter (surfRect (b.ss.getD k default)))) = dC a b i (k + 1) := by
  unfold dC
  rw [or_assoc']
  show _ = Grid.or _ ((accG (damC a b i) k).or (damC a b i k))
  have : damC a b i k = rectG ((surfRect (b.ss.getD i default)).inter (surfRect (b.ss.getD k default))) := by unfold damC; rw [if_pos h]
  rw [this]
theorem dC_no {a b : DScene} {i k : Nat} (h : ¬ surfaceIndex a.ss (b.ss.getD i default).Id < surfaceIndex a.ss (b.ss.getD k default).Id) : dC a b i (k + 1) = dC a b i k := by
  unfold dC
  show Grid.or _ ((accG (damC a b i) k).or (damC a b i k)) = _
  have : damC a b i k = Grid.none := by unfold damC; rw [if_neg h]
  rw [this, or_none]
theorem dB_all {a b : DScene} (ha : a.ok) (hb : b.ok) : dB a b b.ss.length = damG a b := damAll_eq ha hb
/-! the reference -/
theorem dlA_yes {a b : DScene} {j : Nat} (h : surfaceIndex b.ss (a.ss.getD j default).Id < 0 ∨ ¬ a.ss.getD j default = b.ss.getD (surfaceIndex b.ss (a.ss.getD j default).Id).toNat default) : dlA a b (j + 1) = dlA a b j ++ [surfRect (a.ss.getD j default)] := by
  conv => lhs; unfold dlA
  rw [if_pos h]
theorem dlA_no {a b : DScene} {j : Nat} (h : ¬ (surfaceIndex b.ss (a.ss.getD j default).Id < 0 ∨ ¬ a.ss.getD j default = b.ss.getD (surfaceIndex b.ss (a.ss.getD j default).Id).toNat default)) : dlA a b (j + 1) = dlA a b j := by
  conv => lhs; unfold dlA
  rw [if_neg h, List.append_nil]
def dlT (a b : DScene) (i : Nat) : List DRect := dlA a b a.ss.length ++ dlB a b i
def dlU (a b : DScene) (i k : Nat) : List DRect := dlT a b i ++ dlO a b i ++ dlC a b i k
theorem dlU_yes {a b : DScene} {i : Nat} (h : surfaceIndex a.ss (b.ss.getD i default).Id < 0 ∨ ¬ a.ss.getD (surfaceIndex a.ss (b.ss.getD i default).Id).toNat default = b.ss.getD i default) : dlU a b i 0 = dlT a b i ++ [surfRect (b.ss.getD i default)] := by
  unfold dlU dlO dlC
  rw [if_pos h, List.append_nil]
theorem dlU_no {a b : DScene} {i : Nat} (h : ¬ (surfaceIndex a.ss (b.ss.getD i default).Id < 0 ∨ ¬ a.ss.getD (surfaceIndex a.ss (b.ss.getD i default).Id).toNat default = b.ss.getD i default)) : dlU a b i 0 = dlT a b i := by
  unfold dlU dlO dlC
  rw [if_neg h, List.append_nil, List.append_nil]
theorem dlU_add {a b : DScene} {i k : Nat} (h : 0 ≤ surfaceIndex a.ss (b.ss.getD i default).Id ∧ surfaceIndex a.ss (b.ss.getD i default).Id < surfaceIndex a.ss (b.ss.getD k default).Id) : dlU a b i (k + 1) = dlU a b i k ++ [(surfRect (b.ss.getD i default)).inter (surfRect (b.ss.getD k default))] := by
  unfold dlU
  conv => lhs; unfold dlC
  rw [if_pos h, List.append_assoc, List.append_assoc, List.append_assoc]
theorem dlU_skip {a b : DScene} {i k : Nat} (h : ¬ (0 ≤ surfaceIndex a.ss (b.ss.getD i default).Id ∧ surfaceIndex a.ss (b.ss.getD i default).Id < surfaceIndex a.ss (b.ss.getD k default).Id)) : dlU a b i (k + 1) = dlU a b i k := by
  unfold dlU
  conv => lhs; unfold dlC
  rw [if_neg h, List.append_nil]
theorem dlU_all (a b : DScene) (i : Nat) : dlU a b i i = dlT a b (i + 1) := by
  unfold dlU dlT
  conv => rhs; unfold dlB
  simp [List.append_assoc]
theorem dlT_zero (a b : DScene) : dlT a b 0 = dlA a b a.ss.length := by unfold dlT dlB; rw [List.append_nil]
theorem dlT_length {a b : DScene} (ha : a.ss.length ≤ 6) {i : Nat} (hi : i ≤ 6) : (dlT a b i).length ≤ 48 := by
  have h1 := dlA_length a b a.ss.length
  have h2 := dlB_length a b i hi
  unfold dlT
  rw [List.length_append]; omega
theorem dlU_length {a b : DScene} (ha : a.ss.length ≤ 6) {i k : Nat} (hi : i ≤ 6) (hk : k ≤ 6) : (dlU a b i k).length ≤ 55 := by
  have h1 := dlT_length (b := b) ha hi
  have h2 := dlC_length a b i k
  have h3 := dlO_length a b i
  unfold dlU
  rw [List.length_append, List.length_append]; omega
theorem damageOf_far {a b : DScene} (ha : a.ok) (hb : b.ok) (h : ¬ (sameSize a b ∧ a.Back = b.Back)) : damageOf a b = canon (scrG b) := by unfold damageOf; rw [if_pos ⟨ha, hb⟩, if_neg h]
theorem damageOf_near {a b : DScene} (ha : a.ok) (hb : b.ok) (h : sameSize a b ∧ a.Back = b.Back) : damageOf a b = canon ((damG a b).and (scrG b)) := by unfold damageOf; rw [if_pos ⟨ha, hb⟩, if_pos h]
theorem damageOf_bad {a b : DScene} (h : ¬ (a.ok ∧ b.ok)) : damageOf a b = [] := by unfold damageOf; rw [if_neg h]
end Sx
/-
  Contracts: damage, by the program.
-/
set_option linter.unusedVariables false
namespace Go.Proofs.Ytfmjeakcfmmkfaa
open Go Sx
attribute [local irreducible] Exit.then Exit.inBlock bodyPost OVs OInts canonR rowR points Sx.canon oriented scaled pictureOf rawPicture accG damA damB damC dB dC surfaceIndex
set_option maxHeartbeats 4000000 in
theorem c_idamageOf (a t : DScene) (va vb : Value) (W : World) (hva : RS eSurf W va a.ss) (hvb : RS eSurf W vb t.ss) : SYieldsF Try.prog 20 #[vScene a va, vScene t vb] (fun u H => OReg u (damageOf a t) H) W := by
  have hae := hva
  have hbe := hvb
  obtain ⟨da, hva⟩ := hva
  obtain ⟨db, hvb⟩ := hvb
  have haf := hva.form
  have hbf := hvb.form
  obtain ⟨a1, a2, rfl⟩ := haf
  obtain ⟨b1, b2, rfl⟩ := hbf
  by_cases hok : a.ok ∧ t.ok
  · by_cases hsz : sameSize a t ∧ a.Back = t.Back
    · rw [damageOf_near hok.1 hok.2 hsz]
      have hsz' : a.W = t.W ∧ a.H = t.H ∧ a.Back = t.Back := ⟨hsz.1.1, hsz.1.2, hsz.2⟩
      have hla := hok.1.2.2.2.1
      have hlb := hok.2.2.2.2.1
      have hia := fun j => index_lt a.ss (t.ss.getD j default).Id
      have hib := fun (j : Nat) => index_lt t.ss (a.ss.getD ((j : Int)).toNat eSurf.dflt).Id
      have hz1 : accG (damA a t) 0 = Grid.none := by unfold accG; rfl
      have hroom : t.ss.length ≤ b2 := hvb.row.room
      have hrow := fun (i : Nat) (hi : i ≤ t.ss.length) => rrow_hi hvb.row hi
      (first | apply SYields.mk | apply SYieldsF.mk | skip); refine s_enter Try.func20 rfl Try.ntmps20 rfl ?_
      repeat' (first | exact rfl | (apply kO; (first | exact ov_pure rfl | (apply kOBin; (first | exact aBin)) | (apply kOCall; (first | (apply kCallF; (first | exact (ov_call rfl (fun w hw => c_isceneOk a _ w (hae.keep (hw.cells rfl)))) | exact (ov_call rfl (fun w hw => c_isceneOk t _ w (hbe.keep (hw.cells rfl)))) | exact (ov_call rfl (fun w hw => c_screenGrid t _ w)) | exact (ov_call rfl (fun w hw => c_isurfaceIndex a _ _ w (hae.keep (hw.cells rfl)))) | exact (ov_call rfl (fun w hw => c_isurfaceIndex t _ _ w (hbe.keep (hw.cells rfl)))) | exact (ov_call rfl (fun w hw => c_isurfaceRect (a.ss.getD j default) (da j) w (RInts.keep (hva.rd _ (by omega)) (hw.cells rfl)))) | exact (ov_call rfl (fun w hw => c_isurfaceRect (t.ss.getD (surfaceIndex t.ss (a.ss.getD j default).Id).toNat default) (db (surfaceIndex t.ss (a.ss.getD j default).Id).toNat) w (RInts.keep (hvb.rd _ (show (surfaceIndex t.ss (a.ss.getD ((j : Int)).toNat eSurf.dflt).Id).toNat < t.ss.length from by have := hib j; omega)) (hw.cells rfl)))) | exact (ov_call rfl (fun w hw => c_isameSurface (a.ss.getD j default) (t.ss.getD (surfaceIndex t.ss (a.ss.getD j default).Id).toNat default) (da j) (db (surfaceIndex t.ss (a.ss.getD j default).Id).toNat) w (RInts.keep (hva.rd _ (by omega)) (hw.cells rfl)) (RInts.keep (hvb.rd _ (show (surfaceIndex t.ss (a.ss.getD ((j : Int)).toNat eSurf.dflt).Id).toNat < t.ss.length from by have := hib j; omega)) (hw.cells rfl)))) | exact (ov_call rfl (fun w hw => c_isurfaceRect (t.ss.getD i default) (db i) w (RInts.keep (hvb.rd _ (by omega)) (hw.cells rfl)))) | exact (ov_call rfl (fun w hw => c_isurfaceRect (t.ss.getD k default) (db k) w (RInts.keep (hvb.rd _ (by omega)) (hw.cells rfl)))) | exact (ov_call rfl (fun w hw => c_iintersect (surfRect (t.ss.getD i default)) (surfRect (t.ss.getD k default)) w)) | exact (ov_call rfl (fun w hw => c_gridOf (surfRect (a.ss.getD j default)) w)) | exact (ov_call rfl (fun w hw => c_gridOf (surfRect (t.ss.getD (surfaceIndex t.ss (a.ss.getD j default).Id).toNat default)) w)) | exact (ov_call rfl (fun w hw => c_gridOf (surfRect (t.ss.getD i default)) w)) | exact (ov_call rfl (fun w hw => c_gridOf ((surfRect (t.ss.getD i default)).inter (surfRect (t.ss.getD k default))) w)) | exact (ov_call rfl (fun w hw => c_gor (accG (damA a t) j) (rectG (surfRect (a.ss.getD j default))) w)) | exact (ov_call rfl (fun w hw => c_gor ((accG (damA a t) j).or (rectG (surfRect (a.ss.getD j default)))) (rectG (surfRect (t.ss.getD (surfaceIndex t.ss (a.ss.getD j default).Id).toNat default))) w)) | exact (ov_call rfl (fun w hw => c_gor (dB a t i) (rectG (surfRect (t.ss.getD i default))) w)) | exact (ov_call rfl (fun w hw => c_gor (dC a t i k) (rectG ((surfRect (t.ss.getD i default)).inter (surfRect (t.ss.getD k default)))) w)) | exact (ov_call rfl (fun w hw => c_gand (dB a t i) (scrG t) w)))) | (apply kCallB; (first | exact aBlt | exact (ov_lenR (fun w hw => (hrow i (by omega)).keep (hw.cells rfl)) rfl) | exact aLenR)))) | (apply kOLoad; (first | exact (ov_ldRZ (fun w hw => hva.row.keep (hw.cells rfl)) rfl rfl (by omega) rfl) | exact (ov_ldRZ (fun w hw => hvb.row.keep (hw.cells rfl)) rfl rfl (by omega) rfl) | exact (ov_ldRZ (fun w hw => hvb.row.keep (hw.cells rfl)) rfl rfl (by have := hib j; omega) rfl) | exact (ov_ldRZ (fun w hw => (hrow i (by omega)).keep (hw.cells rfl)) rfl rfl (by omega) rfl) | exact aLdF | exact aLdR)) | exact ov_fieldAddr rfl | (apply kOIdx; (first | exact (ov_idxR (fun w hw => hva.row.keep (hw.cells rfl)) rfl rfl (by omega)) | exact (ov_idxR (fun w hw => hvb.row.keep (hw.cells rfl)) rfl rfl (by omega)) | exact (ov_idxR (fun w hw => hvb.row.keep (hw.cells rfl)) rfl rfl (by have := hib j; omega)) | exact (ov_idxR (fun w hw => (hrow i (by omega)).keep (hw.cells rfl)) rfl rfl (by omega)) | exact aIdx)) | exact aRest | exact (ov_buildA0) | (apply kSlice; exact (ov_sliceHi rfl rfl (by omega))) | exact aNew | exact (ov_field1 (ft := 37) rfl rfl rfl rfl))) | (refine kN ?_; (first | (refine kCall ?_; (first | (refine kWFn 95 ?_; (refine s_callF (fun u H => OReg u (canon ((dB a t i).and (scrG t))) H) rfl (fun w hw => c_gregion ((dB a t i).and (scrG t)) w) rfl (fun u H hu => ?_); obtain ⟨d', rfl, hu⟩ := hu)) | apply s_step)) | (refine kStore ?_; (first | (refine s_storeS _ rfl rfl gpA rfl (eSurf_ones (RInts.one (hva.rd _ (by omega)))) (by rfl) ?_) | (refine s_storeS _ rfl rfl gpA rfl (eSurf_ones (RInts.one (hvb.rd _ (by omega)))) (by rfl) ?_) | (refine s_storeS _ rfl rfl gpA rfl (ones_cons (OVs.one (by assumption)) rfl) (by rfl) ?_) | refine s_store1 _ rfl rfl gpA rfl (by rfl) ?_ | refine s_storeS _ rfl rfl gpA rfl rfl (by rfl) ?_ | refine s_storeS _ rfl rfl gpA rfl (ones_img oiA) (by rfl) ?_)) | refine s_boxS rfl rfl (fun b hb => ?_) | refine s_allocS rfl (fun b hb => ?_) | refine s_box1 rfl rfl rfl (fun b hb => ?_) | refine s_alloc1 rfl rfl (fun b hb => ?_) | refine s_buildSlice0 rfl (fun b hb => ?_) | refine s_buildSlice rfl rfl rfl rfl rfl (fun b hb => ?_) | apply s_step)) | (refine kG ?_; (first | refine s_gyes rfl rfl rfl ?_ | refine s_gno rfl rfl rfl rfl rfl ?_ | ((first | refine s_split_d rfl rfl (fun h => ?_) (fun h => ?_) | refine s_split_n rfl rfl (fun h => ?_) (fun h => ?_)) <;> (try (first | contradiction | (exfalso; omega) | (exfalso; exact absurd hok.1 (by assumption)) | (exfalso; exact absurd hok.2 (by assumption)) | (exfalso; (exfalso; omega))))) | refine s_split_nb rfl rfl (fun h => ?_) (fun h => ?_) | refine s_split rfl rfl (fun h => ?_) (fun h => ?_))) | (refine kS ?_; (first | refine h_exec rfl ?_ | refine h_take_nil rfl rfl rfl ?_ | refine h_take_pick rfl rfl rfl ?_ | refine h_nil ?_ | refine h_alt ?_ ?_ | apply h_take)) | (refine kBack ?_; (first | refine h_back_last rfl ?_ | refine h_backN rfl subA ?_)) | refine l_then ?_ | (refine kC ?_; (first | (refine kReg 12 ?_; refine c_regionSN (SPlan.take 0 (SPlan.take 1 (SPlan.run 2 (SPlan.run 3 (SPlan.run 4 (SPlan.run 5 SPlan.done)))))) (some 5) rfl rfl (by decide +kernel) ?_) | (refine kReg 12 ?_; refine c_regionSN (SPlan.take 0 (SPlan.take 1 (SPlan.run 2 (SPlan.run 3 (SPlan.run 4 (SPlan.run 5 SPlan.done)))))) none rfl rfl (by decide +kernel) ?_) | (refine kReg 14 ?_; refine c_regionSN (SPlan.take 0 (SPlan.take 1 (SPlan.take 5 (SPlan.take 6 (SPlan.take 7 (SPlan.take 8 (SPlan.take 9 (SPlan.run 2 (SPlan.run 3 (SPlan.run 4 (SPlan.run 10 (SPlan.run 11 (SPlan.run 12 (SPlan.run 13 SPlan.done)))))))))))))) (some 13) rfl rfl (by decide +kernel) ?_) | (refine kReg 14 ?_; refine c_regionSN (SPlan.take 0 (SPlan.take 1 (SPlan.take 5 (SPlan.take 6 (SPlan.take 7 (SPlan.take 8 (SPlan.take 9 (SPlan.run 2 (SPlan.run 3 (SPlan.run 4 (SPlan.run 10 (SPlan.run 11 (SPlan.run 12 (SPlan.run 13 SPlan.done)))))))))))))) none rfl rfl (by decide +kernel) ?_) | (refine kReg 21 ?_; refine c_regionSN (SPlan.take 0 (SPlan.take 1 (SPlan.run 2 (SPlan.run 3 (SPlan.run 4 (SPlan.run 5 SPlan.done)))))) (some 5) rfl rfl (by decide +kernel) ?_) | (refine kReg 21 ?_; refine c_regionSN (SPlan.take 0 (SPlan.take 1 (SPlan.run 2 (SPlan.run 3 (SPlan.run 4 (SPlan.run 5 SPlan.done)))))) none rfl rfl (by decide +kernel) ?_) | (refine kReg 27 ?_; refine c_regionSN (SPlan.take 0 (SPlan.take 1 (SPlan.take 3 (SPlan.run 2 (SPlan.run 4 (SPlan.run 5 (SPlan.run 6 (SPlan.run 7 (SPlan.run 8 SPlan.done))))))))) (some 8) rfl rfl (by decide +kernel) ?_) | (refine kReg 27 ?_; refine c_regionSN (SPlan.take 0 (SPlan.take 1 (SPlan.take 3 (SPlan.run 2 (SPlan.run 4 (SPlan.run 5 (SPlan.run 6 (SPlan.run 7 (SPlan.run 8 SPlan.done))))))))) none rfl rfl (by decide +kernel) ?_) | (refine kLoopR 8 ?_; refine c_loopV (ι := Nat) (fun j => j ≤ a.ss.length) (fun j => [(52, .int .i64 (j : Int))]) (fun j => [[(_, srow (gl (accG (damA a t) j)) _)], _, _, _, _]) (fun j => a.ss.length - j) 0 (by omega) rfl (fun _ => rfl) ⟨rfl, trivial⟩ (fun w hw => by rw [hz1]; exact hw) (fun j hj => ?_)) | (refine kLoopR 17 ?_; refine c_loopV (ι := Nat) (fun i => i ≤ t.ss.length) (fun i => [(92, .int .i64 (i : Int))]) (fun i => [[(_, srow (gl (dB a t i)) _)], _, _, _, _]) (fun i => t.ss.length - i) 0 (by omega) rfl (fun _ => rfl) ⟨rfl, trivial⟩ (fun w hw => by rw [dB_zero, show a.ss.length = j by omega]; exact hw) (fun i hi => ?_)) | (refine kLoopR 23 ?_; refine c_loopV (ι := Nat) (fun k => k ≤ i) (fun k => [(113, .int .i64 (k : Int))]) (fun k => [_, [(_, srow (gl (dC a t i k)) _)], _, _, _, _]) (fun k => i - k) 0 (by omega) rfl (fun _ => rfl) ⟨rfl, trivial⟩ (fun w hw => by rw [dC_zero]; exact hw) (fun k hk => ?_)) | refine c_seq ?_ | refine c_regionN rfl ?_ | refine c_ret ?_ | (refine kCond ?_; (first | refine c_cond_t rfl ?_ | refine c_cond_f rfl ?_ | ((first | refine c_cond_d rfl (fun h => ?_) (fun h => ?_) | refine c_cond_n rfl (fun h => ?_) (fun h => ?_)) <;> (try (first | contradiction | (exfalso; omega) | (exfalso; exact absurd hok.1 (by assumption)) | (exfalso; exact absurd hok.2 (by assumption)) | (exfalso; (exfalso; omega))))) | refine c_cond_nb rfl (fun h => ?_) (fun h => ?_) | refine c_cond rfl (fun h => ?_) (fun h => ?_))) | refine c_block ?_ | refine c_skip ?_ | refine c_exit ?_ | refine c_regionQN rfl rfl (by decide +kernel) ?_)) | apply s_stepQ | (refine kQG ?_; (first | refine s_gyesQ rfl rfl rfl ?_ | refine s_gnoQ rfl rfl rfl rfl rfl ?_ | ((first | refine s_splitQ_d rfl rfl (fun h => ?_) (fun h => ?_) | refine s_splitQ_n rfl rfl (fun h => ?_) (fun h => ?_)) <;> (try (first | contradiction | (exfalso; omega) | (exfalso; exact absurd hok.1 (by assumption)) | (exfalso; exact absurd hok.2 (by assumption)) | (exfalso; (exfalso; omega))))) | refine s_splitQ_nb rfl rfl (fun h => ?_) (fun h => ?_) | refine s_splitQ rfl rfl (fun h => ?_) (fun h => ?_))) | refine lQ_then ?_ | refine lQ_ends ?_ | (refine kE ?_; (first | refine e_then_r ?_ | refine e_block_r ?_ | refine e_then_n ?_ | refine e_then_x ?_ | refine e_block_n ?_ | refine e_block_x ?_ | refine e_block_y rfl ?_)) | refine l_ends ?_)
      · have h' : surfaceIndex t.ss (a.ss.getD j default).Id < 0 := by assumption
        exact e_round (j + 1) (by omega) ⟨slook_to rfl (vint_to (by push_cast; rfl)), (by repeat' first | exact trivial | refine ⟨rfl, ?_⟩)⟩ (fun w hw => by rw [← damA_neg h']; exact hw.sub (selO_sub [false, true, true, true, true, true] _ _ rfl)) (by omega)
      · have h' : ¬ surfaceIndex t.ss (a.ss.getD j default).Id < 0 := by assumption
        have h2 : ¬ a.ss.getD j default = t.ss.getD (surfaceIndex t.ss (a.ss.getD j default).Id).toNat default := by assumption
        exact e_round (j + 1) (by omega) ⟨slook_to rfl (vint_to (by push_cast; rfl)), (by repeat' first | exact trivial | refine ⟨rfl, ?_⟩)⟩ (fun w hw => by rw [← damA_diff h' h2]; exact hw.sub (selO_sub [false, true, true, true, true, true] _ _ rfl)) (by omega)
      · have h' : ¬ surfaceIndex t.ss (a.ss.getD j default).Id < 0 := by assumption
        have h2 : a.ss.getD j default = t.ss.getD (surfaceIndex t.ss (a.ss.getD j default).Id).toNat default := by assumption
        exact e_round (j + 1) (by omega) ⟨slook_to rfl (vint_to (by push_cast; rfl)), (by repeat' first | exact trivial | refine ⟨rfl, ?_⟩)⟩ (fun w hw => by rw [damA_same h' h2]; exact hw.sub (selO_sub [false, true, true, true, true, true] _ _ rfl)) (by omega)
      · have h' : surfaceIndex a.ss (t.ss.getD i default).Id < 0 := by assumption
        exact e_round (i + 1) (by omega) ⟨slook_to rfl (vint_to (by push_cast; rfl)), (by repeat' first | exact trivial | refine ⟨rfl, ?_⟩)⟩ (fun w hw => by rw [← dB_neg h']; exact hw.sub (selO_sub [false, true, true, true, true, true] _ _ rfl)) (by omega)
      · have h' : surfaceIndex a.ss (t.ss.getD i default).Id < surfaceIndex a.ss (t.ss.getD k default).Id := by assumption
        exact e_round (k + 1) (by omega) ⟨slook_to rfl (vint_to (by push_cast; rfl)), (by repeat' first | exact trivial | refine ⟨rfl, ?_⟩)⟩ (fun w hw => by rw [← dC_yes h']; exact hw.sub (selO_sub [false, true, true, true, true, true, true] _ _ rfl)) (by omega)
      · have h' : ¬ surfaceIndex a.ss (t.ss.getD i default).Id < surfaceIndex a.ss (t.ss.getD k default).Id := by assumption
        exact e_round (k + 1) (by omega) ⟨slook_to rfl (vint_to (by push_cast; rfl)), (by repeat' first | exact trivial | refine ⟨rfl, ?_⟩)⟩ (fun w hw => by rw [dC_no h']; exact hw.sub (selO_sub [false, true, true, true, true, true, true] _ _ rfl)) (by omega)
      · have h' : ¬ surfaceIndex a.ss (t.ss.getD i default).Id < 0 := by assumption
        have h2 : dC a t i k = dB a t (i + 1) := by rw [show k = i by omega]; unfold dC; exact dB_in h'
        exact e_round (i + 1) (by omega) ⟨slook_to rfl (vint_to (by push_cast; rfl)), (by repeat' first | exact trivial | refine ⟨rfl, ?_⟩)⟩ (fun w hw => by rw [← h2]; exact hw.sub (selO_sub [false, true, true, true, true, true] _ _ rfl)) (by omega)
      · have e : dB a t i = damG a t := by rw [show i = t.ss.length by omega]; exact dB_all hok.1 hok.2
        rw [e] at hu
        exact s_leaveSF rfl rfl rfl fwA (fun w hw => ⟨_, _, rfl, ⟨_, rfl, hu⟩, hw.toFresh (H := H) gpA⟩)
    · rw [damageOf_far hok.1 hok.2 hsz]
      have hsz' : ¬ (a.W = t.W ∧ a.H = t.H ∧ a.Back = t.Back) := fun e => hsz ⟨⟨e.1, e.2.1⟩, e.2.2⟩
      (first | apply SYields.mk | apply SYieldsF.mk | skip); refine s_enter Try.func20 rfl Try.ntmps20 rfl ?_
      repeat' (first | exact rfl | (apply kO; (first | exact ov_pure rfl | (apply kOBin; (first | exact aBin)) | (apply kOCall; (first | (apply kCallF; (first | exact (ov_call rfl (fun w hw => c_isceneOk a _ w (hae.keep (hw.cells rfl)))) | exact (ov_call rfl (fun w hw => c_isceneOk t _ w (hbe.keep (hw.cells rfl)))) | exact (ov_call rfl (fun w hw => c_screenGrid t _ w)))) | (apply kCallB; (first | exact aBlt | exact aLenR)))) | (apply kOLoad; (first | exact aLdF | exact aLdR)) | exact ov_fieldAddr rfl | (apply kOIdx; (first | exact aIdx)) | exact aRest | exact (ov_buildA0) | exact aNew | exact (ov_field1 (ft := 37) rfl rfl rfl rfl))) | (refine kN ?_; (first | (refine kCall ?_; (first | (refine kWFn 95 ?_; (refine s_callF (fun u H => OReg u (canon (scrG t)) H) rfl (fun w hw => c_gregion (scrG t) w) rfl (fun u H hu => ?_); obtain ⟨d', rfl, hu⟩ := hu)) | apply s_step)) | (refine kStore ?_; (first | (refine s_storeS _ rfl rfl gpA rfl (ones_cons (OVs.one (by assumption)) rfl) (by rfl) ?_) | refine s_store1 _ rfl rfl gpA rfl (by rfl) ?_ | refine s_storeS _ rfl rfl gpA rfl rfl (by rfl) ?_ | refine s_storeS _ rfl rfl gpA rfl (ones_img oiA) (by rfl) ?_)) | refine s_boxS rfl rfl (fun b hb => ?_) | refine s_allocS rfl (fun b hb => ?_) | refine s_box1 rfl rfl rfl (fun b hb => ?_) | refine s_alloc1 rfl rfl (fun b hb => ?_) | refine s_buildSlice0 rfl (fun b hb => ?_) | refine s_buildSlice rfl rfl rfl rfl rfl (fun b hb => ?_) | apply s_step)) | (refine kG ?_; (first | refine s_gyes rfl rfl rfl ?_ | refine s_gno rfl rfl rfl rfl rfl ?_ | ((first | refine s_split_d rfl rfl (fun h => ?_) (fun h => ?_) | refine s_split_n rfl rfl (fun h => ?_) (fun h => ?_)) <;> (try (first | contradiction | (exfalso; omega) | (exfalso; exact absurd hok.1 (by assumption)) | (exfalso; exact absurd hok.2 (by assumption)) | (exfalso; (exfalso; omega))))) | refine s_split_nb rfl rfl (fun h => ?_) (fun h => ?_) | refine s_split rfl rfl (fun h => ?_) (fun h => ?_))) | (refine kS ?_; (first | refine h_exec rfl ?_ | refine h_take_nil rfl rfl rfl ?_ | refine h_take_pick rfl rfl rfl ?_ | refine h_nil ?_ | refine h_alt ?_ ?_ | apply h_take)) | (refine kBack ?_; (first | refine h_back_last rfl ?_ | refine h_backN rfl subA ?_)) | refine l_then ?_ | (refine kC ?_; (first | (refine kReg 12 ?_; refine c_regionSN (SPlan.take 0 (SPlan.take 1 (SPlan.run 2 (SPlan.run 3 (SPlan.run 4 (SPlan.run 5 SPlan.done)))))) (some 5) rfl rfl (by decide +kernel) ?_) | (refine kReg 12 ?_; refine c_regionSN (SPlan.take 0 (SPlan.take 1 (SPlan.run 2 (SPlan.run 3 (SPlan.run 4 (SPlan.run 5 SPlan.done)))))) none rfl rfl (by decide +kernel) ?_) | (refine kReg 13 ?_; refine c_regionSN (SPlan.take 0 (SPlan.take 1 (SPlan.take 2 (SPlan.take 3 (SPlan.take 4 (SPlan.take 5 (SPlan.run 6 (SPlan.take 7 SPlan.done)))))))) none rfl rfl (by decide +kernel) ?_) | (refine kReg 14 ?_; refine c_regionSN (SPlan.take 0 (SPlan.take 1 (SPlan.take 5 (SPlan.take 6 (SPlan.take 7 (SPlan.take 8 (SPlan.take 9 (SPlan.run 2 (SPlan.run 3 (SPlan.run 4 (SPlan.run 10 (SPlan.run 11 (SPlan.run 12 (SPlan.run 13 SPlan.done)))))))))))))) (some 13) rfl rfl (by decide +kernel) ?_) | (refine kReg 14 ?_; refine c_regionSN (SPlan.take 0 (SPlan.take 1 (SPlan.take 5 (SPlan.take 6 (SPlan.take 7 (SPlan.take 8 (SPlan.take 9 (SPlan.run 2 (SPlan.run 3 (SPlan.run 4 (SPlan.run 10 (SPlan.run 11 (SPlan.run 12 (SPlan.run 13 SPlan.done)))))))))))))) none rfl rfl (by decide +kernel) ?_) | (refine kReg 21 ?_; refine c_regionSN (SPlan.take 0 (SPlan.take 1 (SPlan.run 2 (SPlan.run 3 (SPlan.run 4 (SPlan.run 5 SPlan.done)))))) (some 5) rfl rfl (by decide +kernel) ?_) | (refine kReg 21 ?_; refine c_regionSN (SPlan.take 0 (SPlan.take 1 (SPlan.run 2 (SPlan.run 3 (SPlan.run 4 (SPlan.run 5 SPlan.done)))))) none rfl rfl (by decide +kernel) ?_) | (refine kReg 27 ?_; refine c_regionSN (SPlan.take 0 (SPlan.take 1 (SPlan.take 3 (SPlan.run 2 (SPlan.run 4 (SPlan.run 5 (SPlan.run 6 (SPlan.run 7 (SPlan.run 8 SPlan.done))))))))) (some 8) rfl rfl (by decide +kernel) ?_) | (refine kReg 27 ?_; refine c_regionSN (SPlan.take 0 (SPlan.take 1 (SPlan.take 3 (SPlan.run 2 (SPlan.run 4 (SPlan.run 5 (SPlan.run 6 (SPlan.run 7 (SPlan.run 8 SPlan.done))))))))) none rfl rfl (by decide +kernel) ?_) | refine c_seq ?_ | refine c_regionN rfl ?_ | refine c_ret ?_ | (refine kCond ?_; (first | refine c_cond_t rfl ?_ | refine c_cond_f rfl ?_ | ((first | refine c_cond_d rfl (fun h => ?_) (fun h => ?_) | refine c_cond_n rfl (fun h => ?_) (fun h => ?_)) <;> (try (first | contradiction | (exfalso; omega) | (exfalso; exact absurd hok.1 (by assumption)) | (exfalso; exact absurd hok.2 (by assumption)) | (exfalso; (exfalso; omega))))) | refine c_cond_nb rfl (fun h => ?_) (fun h => ?_) | refine c_cond rfl (fun h => ?_) (fun h => ?_))) | refine c_block ?_ | refine c_skip ?_ | refine c_exit ?_ | refine c_regionQN rfl rfl (by decide +kernel) ?_)) | apply s_stepQ | (refine kQG ?_; (first | refine s_gyesQ rfl rfl rfl ?_ | refine s_gnoQ rfl rfl rfl rfl rfl ?_ | ((first | refine s_splitQ_d rfl rfl (fun h => ?_) (fun h => ?_) | refine s_splitQ_n rfl rfl (fun h => ?_) (fun h => ?_)) <;> (try (first | contradiction | (exfalso; omega) | (exfalso; exact absurd hok.1 (by assumption)) | (exfalso; exact absurd hok.2 (by assumption)) | (exfalso; (exfalso; omega))))) | refine s_splitQ_nb rfl rfl (fun h => ?_) (fun h => ?_) | refine s_splitQ rfl rfl (fun h => ?_) (fun h => ?_))) | refine lQ_then ?_ | refine lQ_ends ?_ | (refine kE ?_; (first | refine e_then_r ?_ | refine e_block_r ?_ | refine e_then_n ?_ | refine e_then_x ?_ | refine e_block_n ?_ | refine e_block_x ?_ | refine e_block_y rfl ?_)) | refine l_ends ?_)
      all_goals (refine kE ?_; refine s_leaveSF rfl rfl rfl fwA (fun w hw => ?_))
      all_goals exact ⟨_, _, rfl, ⟨_, rfl, hu⟩, hw.toFresh (H := H) gpA⟩
  · rw [damageOf_bad hok]
    (first | apply SYields.mk | apply SYieldsF.mk | skip); refine s_enter Try.func20 rfl Try.ntmps20 rfl ?_
    repeat' (first | exact rfl | (apply kO; (first | exact ov_pure rfl | (apply kOBin; (first | exact aBin)) | (apply kOCall; (first | (apply kCallF; (first | exact (ov_call rfl (fun w hw => c_isceneOk a _ w (hae.keep (hw.cells rfl)))) | exact (ov_call rfl (fun w hw => c_isceneOk t _ w (hbe.keep (hw.cells rfl)))))) | (apply kCallB; (first | exact aBlt | exact aLenR)))) | (apply kOLoad; (first | exact aLdF | exact aLdR)) | exact ov_fieldAddr rfl | (apply kOIdx; (first | exact aIdx)) | exact aRest | exact aNew | exact (ov_field1 (ft := 37) rfl rfl rfl rfl))) | (refine kN ?_; (first | (refine kStore ?_; (first | refine s_store1 _ rfl rfl gpA rfl (by rfl) ?_ | refine s_storeS _ rfl rfl gpA rfl rfl (by rfl) ?_ | refine s_storeS _ rfl rfl gpA rfl (ones_img oiA) (by rfl) ?_)) | refine s_boxS rfl rfl (fun b hb => ?_) | refine s_allocS rfl (fun b hb => ?_) | refine s_box1 rfl rfl rfl (fun b hb => ?_) | refine s_alloc1 rfl rfl (fun b hb => ?_) | refine s_buildSlice0 rfl (fun b hb => ?_) | refine s_buildSlice rfl rfl rfl rfl rfl (fun b hb => ?_) | apply s_step)) | (refine kG ?_; (first | refine s_gyes rfl rfl rfl ?_ | refine s_gno rfl rfl rfl rfl rfl ?_ | ((first | refine s_split_d rfl rfl (fun h => ?_) (fun h => ?_) | refine s_split_n rfl rfl (fun h => ?_) (fun h => ?_)) <;> (try (first | contradiction | (exfalso; omega) | (exfalso; exact absurd ⟨by assumption, by assumption⟩ hok)))) | refine s_split_nb rfl rfl (fun h => ?_) (fun h => ?_) | refine s_split rfl rfl (fun h => ?_) (fun h => ?_))) | refine l_then ?_ | (refine kC ?_; (first | refine c_seq ?_ | refine c_regionN rfl ?_ | refine c_ret ?_ | (refine kCond ?_; (first | refine c_cond_t rfl ?_ | refine c_cond_f rfl ?_ | ((first | refine c_cond_d rfl (fun h => ?_) (fun h => ?_) | refine c_cond_n rfl (fun h => ?_) (fun h => ?_)) <;> (try (first | contradiction | (exfalso; omega) | (exfalso; exact absurd ⟨by assumption, by assumption⟩ hok)))) | refine c_cond_nb rfl (fun h => ?_) (fun h => ?_) | refine c_cond rfl (fun h => ?_) (fun h => ?_))) | refine c_block ?_ | refine c_skip ?_ | refine c_exit ?_ | refine c_regionQN rfl rfl (by decide +kernel) ?_)) | apply s_stepQ | (refine kQG ?_; (first | refine s_gyesQ rfl rfl rfl ?_ | refine s_gnoQ rfl rfl rfl rfl rfl ?_ | ((first | refine s_splitQ_d rfl rfl (fun h => ?_) (fun h => ?_) | refine s_splitQ_n rfl rfl (fun h => ?_) (fun h => ?_)) <;> (try (first | contradiction | (exfalso; omega) | (exfalso; exact absurd ⟨by assumption, by assumption⟩ hok)))) | refine s_splitQ_nb rfl rfl (fun h => ?_) (fun h => ?_) | refine s_splitQ rfl rfl (fun h => ?_) (fun h => ?_))) | refine lQ_then ?_ | refine lQ_ends ?_ | (refine kE ?_; (first | refine e_then_r ?_ | refine e_block_r ?_ | refine e_then_n ?_ | refine e_then_x ?_ | refine e_block_n ?_ | refine e_block_x ?_ | refine e_block_y rfl ?_)) | refine l_ends ?_)
    all_goals (refine kE ?_; refine s_leaveSF rfl rfl rfl fwA (fun w hw => ?_))
    all_goals exact ⟨_, [], rfl, ⟨_, rfl, OVs.nil⟩, hw.toFresh0⟩
end Go.Proofs.Ytfmjeakcfmmkfaa
/-
  Contracts: the reference's grids.
-/
set_option linter.unusedVariables false
namespace Go.Proofs.Ytfmjeakcfmmkfaa
open Go Sx
attribute [local irreducible] Exit.then Exit.inBlock bodyPost
theorem putG_put (g : Grid) (y x : Nat) : Grid.put g y x true = putG g y x := rfl
theorem boxG_put {r : DRect} {old : Grid} {j i : Nat} (h0 : 0 ≤ r.X ∧ 0 ≤ r.Y) (hx : r.X + r.W ≤ 16) (hy : r.Y + r.H ≤ 16) (hi : (i : Int) < r.W) (hj : (j : Int) < r.H) :
    (gvals (boxG r old j i)).set ((r.Y + (j : Int)) * 16 + (r.X + (i : Int))).toNat true = gvals (boxG r old j (i + 1)) := by
  rw [show ((r.Y + (j : Int)) * 16 + (r.X + (i : Int))).toNat = (r.Y + j).toNat * 16 + (r.X + i).toNat by omega, gvals_set _ (by omega) (by omega), putG_put, gvals_congr (boxG_next h0 hi)]
set_option maxHeartbeats 2000000 in
set_option maxRecDepth 1000000 in
theorem c_l03Grid (v : Value) (l : List DRect) (W : World) (hv : RRects W v l) : SYieldsF Try.prog 201 #[v] (fun u H => OBools u (gvals (points l)) H) W := by
  have hv' := hv.form
  obtain ⟨_, _, rfl⟩ := hv'
  have hll := hv.len
  have hin := fun k => inter_screen_in (l.getD k DRect.zero)
  have hgl := fun g => gvals_length g
  have hzero : (List.replicate 256 false) = gvals (points (l.take 0)) := by
    exact (List.eq_replicate_iff.2 ⟨by simp [gvals], fun c hc => by obtain ⟨q, _, rfl⟩ := List.mem_map.1 hc; rfl⟩).symm
  (first | apply SYields.mk | apply SYieldsF.mk | skip); refine s_enter Try.func201 rfl Try.ntmps201 rfl ?_
  repeat' (first | exact rfl | (apply kO; (first | exact ov_pure rfl | (apply kOBin; (first | exact aBin | exact (ov_add rfl rfl (by have := hin k.1; omega)) | exact (ov_mul rfl rfl (by have := hin k.1; omega)))) | (apply kOCall; (first | (apply kCallF; (first | exact (ov_call rfl (fun w hw => c_sintersect (l.getD k.1 DRect.zero) DRect.screen w)))) | (apply kCallB; (first | exact aBlt | exact aLenR)))) | (apply kOLoad; (first | exact (ov_ldR (fun w hw => RRow.keep hv (hw.cells rfl)) rfl rfl (by omega) rfl) | exact aLdF | exact aLdR)) | exact ov_fieldAddr rfl | (apply kOIdx; (first | exact (ov_idxR (fun w hw => OBools.rd (by assumption) (hfA hw)) rfl rfl (by rw [hgl]; have := hin k.1; omega)) | exact aIdx)) | exact aRest | exact aNew | exact (ov_field1 (ft := 37) rfl rfl rfl rfl))) | (refine kN ?_; (first | (refine kStore ?_; (first | (refine s_setB _ rfl rfl (by assumption) gpA (by rw [hgl]; have := hin k.1; omega) (fun H' hu => ?_)) | refine s_store1 _ rfl rfl gpA rfl (by rfl) ?_ | refine s_storeS _ rfl rfl gpA rfl rfl (by rfl) ?_ | refine s_storeS _ rfl rfl gpA rfl (ones_img oiA) (by rfl) ?_)) | refine s_boxS rfl rfl (fun b hb => ?_) | refine s_allocS rfl (fun b hb => ?_) | refine s_box1 rfl rfl rfl (fun b hb => ?_) | refine s_alloc1 rfl rfl (fun b hb => ?_) | (refine kWMake ?_; (refine s_make1 rfl rfl rfl ⟨by omega, by omega, by omega⟩ (by omega) rfl (fun b hb => ?_))) | refine s_buildSlice0 rfl (fun b hb => ?_) | refine s_buildSlice rfl rfl rfl rfl rfl (fun b hb => ?_) | apply s_step)) | (refine kG ?_; (first | refine s_gyes rfl rfl rfl ?_ | refine s_gno rfl rfl rfl rfl rfl ?_ | ((first | refine s_split_d rfl rfl (fun h => ?_) (fun h => ?_) | refine s_split_n rfl rfl (fun h => ?_) (fun h => ?_)) <;> (try (first | contradiction | (exfalso; omega)))) | refine s_split_nb rfl rfl (fun h => ?_) (fun h => ?_) | refine s_split rfl rfl (fun h => ?_) (fun h => ?_))) | (refine kS ?_; (first | refine h_exec rfl ?_ | refine h_take_nil rfl rfl rfl ?_ | refine h_take_pick rfl rfl rfl ?_ | refine h_nil ?_ | refine h_alt ?_ ?_ | apply h_take)) | (refine kBack ?_; (first | refine h_back_last rfl ?_ | refine h_backN rfl subA ?_)) | refine l_then ?_ | (refine kC ?_; (first | (refine kReg 6 ?_; refine c_regionSN (SPlan.take 0 (SPlan.take 1 (SPlan.take 2 (SPlan.take 3 (SPlan.take 4 ((SPlan.run 5 (SPlan.run 6 (SPlan.run 7 SPlan.done))).alt (SPlan.run 6 (SPlan.run 5 (SPlan.run 7 SPlan.done))))))))) (some 7) rfl rfl (by decide +kernel) ?_) | (refine kReg 6 ?_; refine c_regionSN (SPlan.take 0 (SPlan.take 1 (SPlan.take 2 (SPlan.take 3 (SPlan.take 4 ((SPlan.run 5 (SPlan.run 6 (SPlan.run 7 SPlan.done))).alt (SPlan.run 6 (SPlan.run 5 (SPlan.run 7 SPlan.done))))))))) none rfl rfl (by decide +kernel) ?_) | (refine c_loopV (ι := Nat × SPiece) (fun k => k.1 ≤ l.length ∧ OBools _ (gvals (points (l.take k.1))) k.2) (fun k => [(5, .int .i64 (k.1 : Int))]) (fun k => [_, k.2]) (fun k => l.length - k.1) (0, _) ⟨by dsimp only; omega, by dsimp only; rw [← hzero]; exact OBools.full _ false (by unfold maxLen; omega)⟩ rfl (fun _ => rfl) ⟨rfl, trivial⟩ (fun w hw => hw) (fun k hk => ?_); obtain ⟨hk1, hk2⟩ := hk) | (refine c_loopV (ι := Nat × SPiece) (fun j => (j.1 : Int) ≤ ((l.getD k.1 DRect.zero).inter DRect.screen).H ∧ OBools _ (gvals (boxG ((l.getD k.1 DRect.zero).inter DRect.screen) (points (l.take k.1)) j.1 0)) j.2) (fun j => [(7, .int .i64 (((l.getD k.1 DRect.zero).inter DRect.screen).Y + (j.1 : Int)))]) (fun j => [_, _, j.2]) (fun j => ((l.getD k.1 DRect.zero).inter DRect.screen).H.toNat - j.1) (0, _) ⟨by have := hin k.1; dsimp only; omega, by rw [gvals_congr (boxG_zero _ _)]; exact hk2⟩ rfl (fun _ => rfl) ⟨slook_to rfl (vint_to (by simp)), trivial⟩ (fun w hw => hw) (fun j hj => ?_); obtain ⟨hj1, hj2⟩ := hj) | (refine c_loopV (ι := Nat × SPiece) (fun i => (i.1 : Int) ≤ ((l.getD k.1 DRect.zero).inter DRect.screen).W ∧ OBools _ (gvals (boxG ((l.getD k.1 DRect.zero).inter DRect.screen) (points (l.take k.1)) j.1 i.1)) i.2) (fun i => [(8, .int .i64 (((l.getD k.1 DRect.zero).inter DRect.screen).X + (i.1 : Int)))]) (fun i => [_, _, i.2]) (fun i => ((l.getD k.1 DRect.zero).inter DRect.screen).W.toNat - i.1) (0, _) ⟨by have := hin k.1; dsimp only; omega, hj2⟩ rfl (fun _ => rfl) ⟨slook_to rfl (vint_to (by simp)), trivial⟩ (fun w hw => hw) (fun i hi => ?_); obtain ⟨hi1, hi2⟩ := hi) | refine c_seq ?_ | refine c_regionN rfl ?_ | refine c_ret ?_ | (refine kCond ?_; (first | refine c_cond_t rfl ?_ | refine c_cond_f rfl ?_ | ((first | refine c_cond_d rfl (fun h => ?_) (fun h => ?_) | refine c_cond_n rfl (fun h => ?_) (fun h => ?_)) <;> (try (first | contradiction | (exfalso; omega)))) | refine c_cond_nb rfl (fun h => ?_) (fun h => ?_) | refine c_cond rfl (fun h => ?_) (fun h => ?_))) | refine c_block ?_ | refine c_skip ?_ | refine c_exit ?_ | refine c_regionQN rfl rfl (by decide +kernel) ?_)) | apply s_stepQ | (refine kQG ?_; (first | refine s_gyesQ rfl rfl rfl ?_ | refine s_gnoQ rfl rfl rfl rfl rfl ?_ | ((first | refine s_splitQ_d rfl rfl (fun h => ?_) (fun h => ?_) | refine s_splitQ_n rfl rfl (fun h => ?_) (fun h => ?_)) <;> (try (first | contradiction | (exfalso; omega)))) | refine s_splitQ_nb rfl rfl (fun h => ?_) (fun h => ?_) | refine s_splitQ rfl rfl (fun h => ?_) (fun h => ?_))) | refine lQ_then ?_ | refine lQ_ends ?_ | (refine kE ?_; (first | refine e_then_r ?_ | refine e_block_r ?_ | refine e_then_n ?_ | refine e_then_x ?_ | refine e_block_n ?_ | refine e_block_x ?_ | refine e_block_y rfl ?_)) | refine l_ends ?_)
  · have hk0 := hin k.1
    rw [boxG_put ⟨by omega, by omega⟩ (by omega) (by omega) (by omega) (by omega)] at hu
    exact e_round (i.1 + 1, H') ⟨by dsimp only; omega, hu⟩ ⟨slook_to rfl (vint_to (by push_cast; omega)), (by repeat' first | exact trivial | refine ⟨rfl, ?_⟩)⟩ (fun w hw => hw) (by dsimp only; omega)
  · have hk0 := hin k.1
    rw [gvals_congr (boxG_row (by omega))] at hi2
    exact e_round (j.1 + 1, i.2) ⟨by dsimp only; omega, hi2⟩ ⟨slook_to rfl (vint_to (by push_cast; omega)), (by repeat' first | exact trivial | refine ⟨rfl, ?_⟩)⟩ (fun w hw => hw) (by dsimp only; omega)
  · have hk0 := hin k.1
    have hok : ((l.getD k.1 DRect.zero).inter DRect.screen).ok := by unfold DRect.ok; omega
    rw [gvals_congr ((boxG_all hok (by omega)).trans (points_take_screen (by omega)))] at hj2
    exact e_round (k.1 + 1, j.2) ⟨by dsimp only; omega, hj2⟩ ⟨slook_to rfl (vint_to (by push_cast; rfl)), (by repeat' first | exact trivial | refine ⟨rfl, ?_⟩)⟩ (fun w hw => hw.sub (selO_sub [false, true, true] _ _ rfl)) (by dsimp only; omega)
  · have hk0 := hin k.1
    rw [boxG_put ⟨by omega, by omega⟩ (by omega) (by omega) (by omega) (by omega)] at hu
    exact e_round (i.1 + 1, H') ⟨by dsimp only; omega, hu⟩ ⟨slook_to rfl (vint_to (by push_cast; omega)), (by repeat' first | exact trivial | refine ⟨rfl, ?_⟩)⟩ (fun w hw => hw) (by dsimp only; omega)
  · have hk0 := hin k.1
    rw [gvals_congr (boxG_row (by omega))] at hi2
    exact e_round (j.1 + 1, i.2) ⟨by dsimp only; omega, hi2⟩ ⟨slook_to rfl (vint_to (by push_cast; omega)), (by repeat' first | exact trivial | refine ⟨rfl, ?_⟩)⟩ (fun w hw => hw) (by dsimp only; omega)
  · have hk0 := hin k.1
    have hok : ((l.getD k.1 DRect.zero).inter DRect.screen).ok := by unfold DRect.ok; omega
    rw [gvals_congr ((boxG_all hok (by omega)).trans (points_take_screen (by omega)))] at hj2
    exact e_round (k.1 + 1, j.2) ⟨by dsimp only; omega, hj2⟩ ⟨slook_to rfl (vint_to (by push_cast; rfl)), (by repeat' first | exact trivial | refine ⟨rfl, ?_⟩)⟩ (fun w hw => hw.sub (selO_sub [false, true, true] _ _ rfl)) (by dsimp only; omega)
  · have e : k.1 = l.length := by omega
    rw [e, List.take_length] at hk2
    exact s_leave1 rfl rfl (fun w hw => ⟨_, _, rfl, hk2, hw.toFresh (H := k.2) gpA⟩)
end Go.Proofs.Ytfmjeakcfmmkfaa
/-
  Contract: the canonical form of a grid, by the reference.
-/
set_option linter.unusedVariables false
namespace Go.Proofs.Ytfmjeakcfmmkfaa
open Go Sx
attribute [local irreducible] Exit.then Exit.inBlock bodyPost
theorem sameRow_true {g : Grid} {y z : Nat} (h : ∀ i, i < 16 → g z i = g y i) : sameRow g y z = true := sameRow_iff.2 h
theorem sameRow_false {g : Grid} {y z i : Nat} (hi : i < 16) (h : g z i ≠ g y i) : sameRow g y z = false := by
  cases e : sameRow g y z
  · rfl
  · exact absurd (sameRow_iff.1 e i hi) h
theorem gv_at (g : Grid) {y : Nat} {x : Nat} (hy : y < 16) (hx : x < 16) : (gvals g).getD ((y : Int) * 16 + (x : Int)).toNat false = g y x := by
  rw [show ((y : Int) * 16 + (x : Int)).toNat = y * 16 + x by omega]; exact gvals_at g hy hx
set_option maxRecDepth 1000000 in
theorem c_l03Row (v : Value) (g : Grid) (y z : Nat) (W : World) (hy : y < 16) (hz : z < 16) (hv : RBools W v (gvals g)) : SYields Try.prog 233 #[v, .int .i64 (y : Int), .int .i64 (z : Int)] (.bool (sameRow g y z)) W := by
  have hgl := gvals_length g
  have hv' := hv.form
  obtain ⟨_, _, rfl⟩ := hv'
  (first | apply SYields.mk | apply SYieldsF.mk | skip); refine s_enter Try.func233 rfl Try.ntmps233 rfl ?_
  repeat' (first | exact rfl | (apply kO; (first | exact ov_pure rfl | (apply kOBin; (first | exact aBin)) | (apply kOCall; (first | (apply kCallB; (first | exact aBlt | exact aLenR)))) | (apply kOLoad; (first | exact (ov_ldR0 (fun w hw => RRow.keep hv (hw.cells rfl)) rfl rfl (by rw [hgl]; omega) rfl) | exact aLdF | exact aLdR)) | exact ov_fieldAddr rfl | (apply kOIdx; (first | exact (ov_idxR (fun w hw => RRow.keep hv (hw.cells rfl)) rfl rfl (by rw [hgl]; omega)) | exact aIdx)) | exact aRest | exact aNew | exact (ov_field1 (ft := 37) rfl rfl rfl rfl))) | (refine kN ?_; (first | (refine kStore ?_; (first | refine s_store1 _ rfl rfl gpA rfl (by rfl) ?_ | refine s_storeS _ rfl rfl gpA rfl rfl (by rfl) ?_ | refine s_storeS _ rfl rfl gpA rfl (ones_img oiA) (by rfl) ?_)) | refine s_boxS rfl rfl (fun b hb => ?_) | refine s_allocS rfl (fun b hb => ?_) | refine s_box1 rfl rfl rfl (fun b hb => ?_) | refine s_alloc1 rfl rfl (fun b hb => ?_) | refine s_buildSlice0 rfl (fun b hb => ?_) | refine s_buildSlice rfl rfl rfl rfl rfl (fun b hb => ?_) | apply s_step)) | (refine kG ?_; (first | refine s_gyes rfl rfl rfl ?_ | refine s_gno rfl rfl rfl rfl rfl ?_ | ((first | refine s_split_d rfl rfl (fun h => ?_) (fun h => ?_) | refine s_split_n rfl rfl (fun h => ?_) (fun h => ?_)) <;> (try (first | contradiction | (exfalso; omega)))) | refine s_split_nb rfl rfl (fun h => ?_) (fun h => ?_) | refine s_split rfl rfl (fun h => ?_) (fun h => ?_))) | refine l_then ?_ | (refine kC ?_; (first | (refine c_loopV (ι := Nat) (fun x => x ≤ 16 ∧ ∀ i, i < x → g z i = g y i) (fun x => [(7, .int .i64 (x : Int))]) (fun _ => []) (fun x => 16 - x) 0 ⟨by omega, fun i hi => by omega⟩ rfl (fun _ => rfl) ⟨rfl, trivial⟩ (fun w hw => hw) (fun x hx => ?_)) | refine c_seq ?_ | refine c_regionN rfl ?_ | refine c_ret ?_ | (refine kCond ?_; (first | refine c_cond_t rfl ?_ | refine c_cond_f rfl ?_ | ((first | refine c_cond_d rfl (fun h => ?_) (fun h => ?_) | refine c_cond_n rfl (fun h => ?_) (fun h => ?_)) <;> (try (first | contradiction | (exfalso; omega)))) | refine c_cond_nb rfl (fun h => ?_) (fun h => ?_) | refine c_cond rfl (fun h => ?_) (fun h => ?_))) | refine c_block ?_ | refine c_skip ?_ | refine c_exit ?_ | refine c_regionQN rfl rfl (by decide +kernel) ?_)) | apply s_stepQ | (refine kQG ?_; (first | refine s_gyesQ rfl rfl rfl ?_ | refine s_gnoQ rfl rfl rfl rfl rfl ?_ | ((first | refine s_splitQ_d rfl rfl (fun h => ?_) (fun h => ?_) | refine s_splitQ_n rfl rfl (fun h => ?_) (fun h => ?_)) <;> (try (first | contradiction | (exfalso; omega)))) | refine s_splitQ_nb rfl rfl (fun h => ?_) (fun h => ?_) | refine s_splitQ rfl rfl (fun h => ?_) (fun h => ?_))) | refine lQ_then ?_ | refine lQ_ends ?_ | (refine kE ?_; (first | refine e_then_r ?_ | refine e_block_r ?_ | refine e_then_n ?_ | refine e_then_x ?_ | refine e_block_n ?_ | refine e_block_x ?_ | refine e_block_y rfl ?_)) | refine l_ends ?_)
  · rw [gv_at g hy (by omega), gv_at g hz (by omega)] at h
    exact s_leave1 rfl rfl (fun w hw => ⟨by rw [sameRow_false (g := g) (y := y) (z := z) (i := x) (by omega) (fun e => h e.symm)], hw.below⟩)
  · rw [gv_at g hy (by omega), gv_at g hz (by omega)] at h
    refine e_round (x + 1) ⟨by omega, fun i hi => ?_⟩ ⟨slook_to rfl (vint_to (by push_cast; rfl)), (by repeat' first | exact trivial | refine ⟨rfl, ?_⟩)⟩ (fun w hw => hw) (by omega)
    by_cases e : i = x
    · subst e; exact h.symm
    · exact hx.2 i (by omega)
  · exact s_leave1 rfl rfl (fun w hw => ⟨by rw [sameRow_true (g := g) (y := y) (z := z) (fun i hi => hx.2 i (by omega))], hw.below⟩)
end Go.Proofs.Ytfmjeakcfmmkfaa
/-
  Contract: the canonical form of a grid, by the reference.
-/
set_option linter.unusedVariables false
namespace Go.Proofs.Ytfmjeakcfmmkfaa
open Go Sx
attribute [local irreducible] Exit.then Exit.inBlock bodyPost Sx.bits canonR rowR gvals sameRow OVs
theorem gv_at3 (g : Grid) {y x z : Nat} (hy : y < 16) (hx : x + z < 16) : (gvals g).getD ((y : Int) * 16 + (x : Int) + (z : Int)).toNat false = g y (x + z) := by
  rw [show ((y : Int) * 16 + (x : Int) + (z : Int)).toNat = y * 16 + (x + z) by omega]; exact gvals_at g hy hx
set_option maxRecDepth 1000000 in
set_option maxHeartbeats 4000000 in
theorem c_l03Canon (v : Value) (g : Grid) (W : World) (hv : RBools W v (gvals g)) : SYieldsF Try.prog 200 #[v] (fun u H => OReg u (canon g) H) W := by
  have hgl := gvals_length g
  have hv' := hv.form
  obtain ⟨_, _, rfl⟩ := hv'
  (first | apply SYields.mk | apply SYieldsF.mk | skip); refine s_enter Try.func200 rfl Try.ntmps200 rfl ?_
  repeat' (first | exact rfl | (apply kO; (first | exact ov_pure rfl | (apply kOBin; (first | exact aBin)) | (apply kOCall; (first | (apply kCallF; (first | exact (ov_call rfl (fun w hw => c_l03Row _ g y.1 (y.1 + e) w (by omega) (by omega) (RRow.keep hv (hw.cells rfl)))))) | (apply kCallB; (first | exact aBlt | exact aLenR)))) | (apply kOLoad; (first | exact (ov_ldR0 (fun w hw => RRow.keep hv (hw.cells rfl)) rfl rfl (by rw [hgl]; omega) rfl) | exact aLdF | exact aLdR)) | exact ov_fieldAddr rfl | (apply kOIdx; (first | exact (ov_idxR (fun w hw => RRow.keep hv (hw.cells rfl)) rfl rfl (by rw [hgl]; omega)) | exact aIdx)) | exact aRest | exact aNew | exact (ov_field1 (ft := 37) rfl rfl rfl rfl))) | (refine kN ?_; (first | (refine kCall ?_; (first | (refine kWApp ?_; (refine s_appendVs _ _ (c := cRect) (kk := 4) (a := ⟨x.1, y.1, (z : Int), (e : Int)⟩) rfl rfl (by assumption) gpA gpA rfl rfl (by rw [scells_eq]; rfl) (by decide) (by omega) (by decide) rfl (fun v' H' hv' => ?_); have f1 := hv'.form; obtain ⟨ua, uc, rfl⟩ := f1)) | apply s_step)) | (refine kStore ?_; (first | (refine s_storeS _ rfl rfl gpA rfl (ones_cons (OVs.one (by assumption)) rfl) (by rfl) ?_) | refine s_store1 _ rfl rfl gpA rfl (by rfl) ?_ | refine s_storeS _ rfl rfl gpA rfl rfl (by rfl) ?_ | refine s_storeS _ rfl rfl gpA rfl (ones_img oiA) (by rfl) ?_)) | refine s_boxS rfl rfl (fun b hb => ?_) | refine s_allocS rfl (fun b hb => ?_) | refine s_box1 rfl rfl rfl (fun b hb => ?_) | refine s_alloc1 rfl rfl (fun b hb => ?_) | refine s_buildSlice0 rfl (fun b hb => ?_) | refine s_buildSlice rfl rfl rfl rfl rfl (fun b hb => ?_) | apply s_step)) | (refine kG ?_; (first | refine s_gyes rfl rfl rfl ?_ | refine s_gno rfl rfl rfl rfl rfl ?_ | ((first | refine s_split_d rfl rfl (fun h => ?_) (fun h => ?_) | refine s_split_n rfl rfl (fun h => ?_) (fun h => ?_)) <;> (try (first | (exfalso; omega)))) | refine s_split_nb rfl rfl (fun h => ?_) (fun h => ?_) | refine s_split rfl rfl (fun h => ?_) (fun h => ?_))) | refine l_then ?_ | (refine kC ?_; (first | (refine kLoop 3 ?_; refine c_loopV (ι := Nat × List DRect × Value × SPiece) (fun y => y.1 ≤ 16 ∧ ORects y.2.2.1 y.2.1 y.2.2.2 ∧ y.2.1 ++ canonR g y.1 = canon g ∧ y.2.1.length ≤ 8 * y.1) (fun y => [(4, .int .i64 (y.1 : Int))]) (fun y => [[(_, srow [y.2.2.1] 34)], y.2.2.2, _]) (fun y => 16 - y.1) (0, [], _, []) ⟨by dsimp only; omega, OVs.nil, (show [] ++ canonR g 0 = canonR g 0 from List.nil_append _), by dsimp only; simp⟩ rfl (fun _ => rfl) ⟨rfl, trivial⟩ (fun w hw => hw.nil1) (fun y hy => ?_); obtain ⟨hy1, hy2, hy3, hy4⟩ := hy) | (refine kLoop 5 ?_; refine c_loopV (ι := Nat) (fun e => (1 ≤ e ∧ y.1 + e ≤ 16) ∧ ∀ z, y.1 < z → z < y.1 + e → z < 16 ∧ sameRow g y.1 z = true) (fun e => [(5, .int .i64 (e : Int))]) (fun e => [_, _, _]) (fun e => 16 - e) 1 ⟨by omega, fun z a c => by omega⟩ rfl (fun _ => rfl) ⟨rfl, trivial⟩ (fun w hw => hw) (fun e he => ?_); obtain ⟨he1, he2⟩ := he) | (refine kLoop 8 ?_; refine c_loopV (ι := Nat × List DRect × Value × SPiece) (fun x => x.1 ≤ 17 ∧ ORects x.2.2.1 x.2.1 x.2.2.2 ∧ x.2.1 ++ (rowR (g y.1) y.1 (e : Int) x.1 ++ canonR g (y.1 + e)) = canon g ∧ x.2.1.length ≤ 8 * y.1 + x.1 / 2) (fun x => [(6, .int .i64 (x.1 : Int))]) (fun x => [[(_, srow [x.2.2.1] 34)], x.2.2.2, _]) (fun x => 17 - x.1) (0, y.2.1, y.2.2.1, y.2.2.2) ⟨by dsimp only; omega, hy2, by dsimp only; rw [← hy3, canonR_step (g := g) (y := y.1) (by omega), hgt_of (e := y.1 + e) (by omega) he2 (fun hh => by first | omega | exact absurd hh.2 (by assumption) | exact absurd hh.2 (Bool.eq_false_iff.1 (by assumption))), show y.1 + e - y.1 = e by omega], by dsimp only; omega⟩ rfl (fun _ => rfl) ⟨rfl, trivial⟩ (fun w hw => hw) (fun x hx => ?_); obtain ⟨hx1, hx2, hx3, hx4⟩ := hx) | (refine kLoop 10 ?_; refine c_loopV (ι := Nat) (fun z => x.1 + z ≤ 16 ∧ ∀ i, x.1 ≤ i → i < x.1 + z → i < 16 ∧ g y.1 i = true) (fun z => [(7, .int .i64 (z : Int))]) (fun z => [_, _, _]) (fun z => 16 - z) 0 ⟨by omega, fun i a c => by omega⟩ rfl (fun _ => rfl) ⟨rfl, trivial⟩ (fun w hw => hw) (fun z hz => ?_); obtain ⟨hz1, hz2⟩ := hz) | refine c_seq ?_ | refine c_regionN rfl ?_ | refine c_ret ?_ | (refine kCond ?_; (first | refine c_cond_t rfl ?_ | refine c_cond_f rfl ?_ | ((first | refine c_cond_d rfl (fun h => ?_) (fun h => ?_) | refine c_cond_n rfl (fun h => ?_) (fun h => ?_)) <;> (try (first | (exfalso; omega)))) | refine c_cond_nb rfl (fun h => ?_) (fun h => ?_) | refine c_cond rfl (fun h => ?_) (fun h => ?_))) | refine c_block ?_ | refine c_skip ?_ | refine c_exit ?_ | refine c_regionQN rfl rfl (by decide +kernel) ?_)) | apply s_stepQ | (refine kQG ?_; (first | refine s_gyesQ rfl rfl rfl ?_ | refine s_gnoQ rfl rfl rfl rfl rfl ?_ | ((first | refine s_splitQ_d rfl rfl (fun h => ?_) (fun h => ?_) | refine s_splitQ_n rfl rfl (fun h => ?_) (fun h => ?_)) <;> (try (first | (exfalso; omega)))) | refine s_splitQ_nb rfl rfl (fun h => ?_) (fun h => ?_) | refine s_splitQ rfl rfl (fun h => ?_) (fun h => ?_))) | refine lQ_then ?_ | refine lQ_ends ?_ | (refine kE ?_; (first | refine e_then_r ?_ | refine e_block_r ?_ | refine e_then_n ?_ | refine e_then_x ?_ | refine e_block_n ?_ | refine e_block_x ?_ | refine e_block_y rfl ?_)) | refine l_ends ?_)
  · refine e_round (e + 1) ⟨by omega, fun z a c => ?_⟩ ⟨slook_to rfl (vint_to (by push_cast; rfl)), (by repeat' first | exact trivial | refine ⟨rfl, ?_⟩)⟩ (fun w hw => hw) (by omega)
    by_cases e0 : z = y.1 + e
    · subst e0; exact ⟨by omega, by assumption⟩
    · exact he2 z a (by omega)
  · refine e_round (z + 1) ⟨by omega, fun i a c => ?_⟩ ⟨slook_to rfl (vint_to (by push_cast; rfl)), (by repeat' first | exact trivial | refine ⟨rfl, ?_⟩)⟩ (fun w hw => hw) (by omega)
    by_cases e0 : i = x.1 + z
    · subst e0; exact ⟨by omega, by rw [← gv_at3 g (y := y.1) (x := x.1) (z := z) (by omega) (by omega)]; assumption⟩
    · exact hz2 i a (by omega)
  · have hxz : 0 < z := by omega
    have hn : ¬ (x.1 + z < 16 ∧ g y.1 (x.1 + z) = true) := fun hh => by have hf : g y.1 (x.1 + z) = false := (by rw [← gv_at3 g (y := y.1) (x := x.1) (z := z) (by omega) (by omega)]; assumption); rw [hf] at hh; exact absurd hh.2 Bool.false_ne_true
    refine e_round (x.1 + z + 1, _, _, H') ⟨by dsimp only; omega, hv', ?_, by dsimp only; rw [List.length_append, List.length_singleton]; omega⟩ ⟨slook_to rfl (vint_to (by push_cast; rfl)), (by repeat' first | exact trivial | refine ⟨rfl, ?_⟩)⟩ (fun w hw => hw.sub (selO_sub [false, true, true, true] _ _ rfl)) (by dsimp only; omega)
    dsimp only
    rw [← hx3, rowR_app (f := g y.1) (y := y.1) (h := (e : Int)) (x := x.1) (z := x.1 + z) (by omega) (by omega) hz2 hn, show (((x.1 + z : Nat) : Int) - (x.1 : Int)) = (z : Int) by omega, List.append_assoc, List.append_assoc]
  · have hxz : z = 0 := by omega
    subst hxz
    have hn : ¬ (x.1 < 16 ∧ g y.1 x.1 = true) := fun hh => by have hf : g y.1 (x.1 + 0) = false := (by rw [← gv_at3 g (y := y.1) (x := x.1) (z := 0) (by omega) (by omega)]; assumption); rw [Nat.add_zero] at hf; rw [hf] at hh; exact absurd hh.2 Bool.false_ne_true
    refine e_round (x.1 + 1, x.2.1, x.2.2.1, x.2.2.2) ⟨by dsimp only; omega, hx2, ?_, by dsimp only; omega⟩ ⟨slook_to rfl (vint_to (by push_cast; omega)), (by repeat' first | exact trivial | refine ⟨rfl, ?_⟩)⟩ (fun w hw => hw) (by dsimp only; omega)
    dsimp only
    rw [← rowR_skip (f := g y.1) (y := y.1) (h := (e : Int)) (by omega) hn]; exact hx3
  · have hxz : 0 < z := by omega
    have hn : ¬ (x.1 + z < 16 ∧ g y.1 (x.1 + z) = true) := fun hh => by omega
    refine e_round (x.1 + z + 1, _, _, H') ⟨by dsimp only; omega, hv', ?_, by dsimp only; rw [List.length_append, List.length_singleton]; omega⟩ ⟨slook_to rfl (vint_to (by push_cast; rfl)), (by repeat' first | exact trivial | refine ⟨rfl, ?_⟩)⟩ (fun w hw => hw.sub (selO_sub [false, true, true, true] _ _ rfl)) (by dsimp only; omega)
    dsimp only
    rw [← hx3, rowR_app (f := g y.1) (y := y.1) (h := (e : Int)) (x := x.1) (z := x.1 + z) (by omega) (by omega) hz2 hn, show (((x.1 + z : Nat) : Int) - (x.1 : Int)) = (z : Int) by omega, List.append_assoc, List.append_assoc]
  · rw [rowR_done (by omega), List.nil_append] at hx3
    exact e_round (y.1 + e, x.2.1, x.2.2.1, x.2.2.2) ⟨by dsimp only; omega, hx2, hx3, by dsimp only; omega⟩ ⟨slook_to rfl (vint_to (by push_cast; rfl)), (by repeat' first | exact trivial | refine ⟨rfl, ?_⟩)⟩ (fun w hw => hw) (by dsimp only; omega)
  · refine e_round (z + 1) ⟨by omega, fun i a c => ?_⟩ ⟨slook_to rfl (vint_to (by push_cast; rfl)), (by repeat' first | exact trivial | refine ⟨rfl, ?_⟩)⟩ (fun w hw => hw) (by omega)
    by_cases e0 : i = x.1 + z
    · subst e0; exact ⟨by omega, by rw [← gv_at3 g (y := y.1) (x := x.1) (z := z) (by omega) (by omega)]; assumption⟩
    · exact hz2 i a (by omega)
  · have hxz : 0 < z := by omega
    have hn : ¬ (x.1 + z < 16 ∧ g y.1 (x.1 + z) = true) := fun hh => by have hf : g y.1 (x.1 + z) = false := (by rw [← gv_at3 g (y := y.1) (x := x.1) (z := z) (by omega) (by omega)]; assumption); rw [hf] at hh; exact absurd hh.2 Bool.false_ne_true
    refine e_round (x.1 + z + 1, _, _, H') ⟨by dsimp only; omega, hv', ?_, by dsimp only; rw [List.length_append, List.length_singleton]; omega⟩ ⟨slook_to rfl (vint_to (by push_cast; rfl)), (by repeat' first | exact trivial | refine ⟨rfl, ?_⟩)⟩ (fun w hw => hw.sub (selO_sub [false, true, true, true] _ _ rfl)) (by dsimp only; omega)
    dsimp only
    rw [← hx3, rowR_app (f := g y.1) (y := y.1) (h := (e : Int)) (x := x.1) (z := x.1 + z) (by omega) (by omega) hz2 hn, show (((x.1 + z : Nat) : Int) - (x.1 : Int)) = (z : Int) by omega, List.append_assoc, List.append_assoc]
  · have hxz : z = 0 := by omega
    subst hxz
    have hn : ¬ (x.1 < 16 ∧ g y.1 x.1 = true) := fun hh => by have hf : g y.1 (x.1 + 0) = false := (by rw [← gv_at3 g (y := y.1) (x := x.1) (z := 0) (by omega) (by omega)]; assumption); rw [Nat.add_zero] at hf; rw [hf] at hh; exact absurd hh.2 Bool.false_ne_true
    refine e_round (x.1 + 1, x.2.1, x.2.2.1, x.2.2.2) ⟨by dsimp only; omega, hx2, ?_, by dsimp only; omega⟩ ⟨slook_to rfl (vint_to (by push_cast; omega)), (by repeat' first | exact trivial | refine ⟨rfl, ?_⟩)⟩ (fun w hw => hw) (by dsimp only; omega)
    dsimp only
    rw [← rowR_skip (f := g y.1) (y := y.1) (h := (e : Int)) (by omega) hn]; exact hx3
  · have hxz : 0 < z := by omega
    have hn : ¬ (x.1 + z < 16 ∧ g y.1 (x.1 + z) = true) := fun hh => by omega
    refine e_round (x.1 + z + 1, _, _, H') ⟨by dsimp only; omega, hv', ?_, by dsimp only; rw [List.length_append, List.length_singleton]; omega⟩ ⟨slook_to rfl (vint_to (by push_cast; rfl)), (by repeat' first | exact trivial | refine ⟨rfl, ?_⟩)⟩ (fun w hw => hw.sub (selO_sub [false, true, true, true] _ _ rfl)) (by dsimp only; omega)
    dsimp only
    rw [← hx3, rowR_app (f := g y.1) (y := y.1) (h := (e : Int)) (x := x.1) (z := x.1 + z) (by omega) (by omega) hz2 hn, show (((x.1 + z : Nat) : Int) - (x.1 : Int)) = (z : Int) by omega, List.append_assoc, List.append_assoc]
  · rw [rowR_done (by omega), List.nil_append] at hx3
    exact e_round (y.1 + e, x.2.1, x.2.2.1, x.2.2.2) ⟨by dsimp only; omega, hx2, hx3, by dsimp only; omega⟩ ⟨slook_to rfl (vint_to (by push_cast; rfl)), (by repeat' first | exact trivial | refine ⟨rfl, ?_⟩)⟩ (fun w hw => hw) (by dsimp only; omega)
  · have e0 : y.1 = 16 := by omega
    rw [e0, canonR_done (by omega), List.append_nil] at hy3
    rw [hy3] at hy2
    exact s_leaveSF rfl rfl rfl fwA (fun w hw => ⟨_, _, rfl, ⟨_, rfl, hy2⟩, hw.toFresh (H := y.2.2.2) gpA⟩)
end Go.Proofs.Ytfmjeakcfmmkfaa
/-
  Contracts: regions of the reference.
-/
set_option linter.unusedVariables false
namespace Go.Proofs.Ytfmjeakcfmmkfaa
open Go Sx
attribute [local irreducible] Exit.then Exit.inBlock bodyPost OVs OInts canonR rowR gvals points Sx.canon
set_option maxHeartbeats 4000000 in
theorem c_sregionOf (v : Value) (l : List DRect) (W : World) (hv : RRects W v l) : SYieldsF Try.prog 146 #[v] (fun u H => OReg u (canon (points l)) H) W := by
  (first | apply SYields.mk | apply SYieldsF.mk | skip); refine s_enter Try.func146 rfl Try.ntmps146 rfl ?_
  repeat' (first | exact rfl | (apply kO; (first | exact ov_pure rfl | (apply kOBin; (first | exact aBin)) | (apply kOCall; (first | (apply kCallB; (first | exact aBlt | exact aLenR)))) | (apply kOLoad; (first | exact aLdF | exact aLdR)) | exact ov_fieldAddr rfl | (apply kOIdx; (first | exact aIdx)) | exact aRest | exact aNew | exact (ov_field1 (ft := 37) rfl rfl rfl rfl))) | (refine kN ?_; (first | (refine kCall ?_; (first | (refine kWFn 201 ?_; (refine s_callF (fun u H => OBools u (gvals (points l)) H) rfl (fun w hw => c_l03Grid v l w (hv.keep (hw.cells rfl))) rfl (fun u H hu => ?_))) | (refine kWFn 200 ?_; (refine s_callF (fun u H => OReg u (canon (points l)) H) rfl (fun w hw => c_l03Canon _ (points l) w (OBools.rd (by assumption) (hfA hw))) rfl (fun u H hu => ?_); obtain ⟨d', rfl, hu⟩ := hu)) | apply s_step)) | (refine kStore ?_; (first | (refine s_storeS _ rfl rfl gpA rfl (ones_cons (OVs.one (by assumption)) rfl) (by rfl) ?_) | refine s_store1 _ rfl rfl gpA rfl (by rfl) ?_ | refine s_storeS _ rfl rfl gpA rfl rfl (by rfl) ?_ | refine s_storeS _ rfl rfl gpA rfl (ones_img oiA) (by rfl) ?_)) | refine s_boxS rfl rfl (fun b hb => ?_) | refine s_allocS rfl (fun b hb => ?_) | refine s_box1 rfl rfl rfl (fun b hb => ?_) | refine s_alloc1 rfl rfl (fun b hb => ?_) | refine s_buildSlice0 rfl (fun b hb => ?_) | refine s_buildSlice rfl rfl rfl rfl rfl (fun b hb => ?_) | apply s_step)) | (refine kG ?_; (first | refine s_gyes rfl rfl rfl ?_ | refine s_gno rfl rfl rfl rfl rfl ?_ | ((first | refine s_split_d rfl rfl (fun h => ?_) (fun h => ?_) | refine s_split_n rfl rfl (fun h => ?_) (fun h => ?_)) <;> (try (first | contradiction | (exfalso; omega)))) | refine s_split_nb rfl rfl (fun h => ?_) (fun h => ?_) | refine s_split rfl rfl (fun h => ?_) (fun h => ?_))) | refine l_then ?_ | (refine kC ?_; (first | refine c_seq ?_ | refine c_regionN rfl ?_ | refine c_ret ?_ | (refine kCond ?_; (first | refine c_cond_t rfl ?_ | refine c_cond_f rfl ?_ | ((first | refine c_cond_d rfl (fun h => ?_) (fun h => ?_) | refine c_cond_n rfl (fun h => ?_) (fun h => ?_)) <;> (try (first | contradiction | (exfalso; omega)))) | refine c_cond_nb rfl (fun h => ?_) (fun h => ?_) | refine c_cond rfl (fun h => ?_) (fun h => ?_))) | refine c_block ?_ | refine c_skip ?_ | refine c_exit ?_ | refine c_regionQN rfl rfl (by decide +kernel) ?_)) | apply s_stepQ | (refine kQG ?_; (first | refine s_gyesQ rfl rfl rfl ?_ | refine s_gnoQ rfl rfl rfl rfl rfl ?_ | ((first | refine s_splitQ_d rfl rfl (fun h => ?_) (fun h => ?_) | refine s_splitQ_n rfl rfl (fun h => ?_) (fun h => ?_)) <;> (try (first | contradiction | (exfalso; omega)))) | refine s_splitQ_nb rfl rfl (fun h => ?_) (fun h => ?_) | refine s_splitQ rfl rfl (fun h => ?_) (fun h => ?_))) | refine lQ_then ?_ | refine lQ_ends ?_ | (refine kE ?_; (first | refine e_then_r ?_ | refine e_block_r ?_ | refine e_then_n ?_ | refine e_then_x ?_ | refine e_block_n ?_ | refine e_block_x ?_ | refine e_block_y rfl ?_)) | refine l_ends ?_)
  all_goals (refine kE ?_; refine s_leaveSF rfl rfl rfl fwA (fun w hw => ?_))
  all_goals exact ⟨_, _, rfl, ⟨_, rfl, hu⟩, hw.toFresh (H := H) gpA⟩
end Go.Proofs.Ytfmjeakcfmmkfaa
/-
  Joining the ways through a region: what comes after it is walked once. Pieces picked out of a heap in any order.
-/
set_option linter.unusedVariables false
namespace Go.Proofs.Ytfmjeakcfmmkfaa
open Go Sx
theorem papart : ∀ {L : SHeap} {i j : Nat} {A B : SPiece} {k : Nat} {o p : Obj}, (L.flatten.map (·.1)).Nodup → getL L i = some A → getL L j = some B → i ≠ j → (k, o) ∈ A → (k, p) ∈ B → False
  | [], i, j, A, B, k, o, p, hn, hi, hj, hij, ha, hb => by simp [getL] at hi
  | X :: L, 0, 0, A, B, k, o, p, hn, hi, hj, hij, ha, hb => hij rfl
  | X :: L, 0, j + 1, A, B, k, o, p, hn, hi, hj, hij, ha, hb => by
    simp only [getL, Option.some.injEq] at hi
    subst hi
    rw [List.flatten_cons, List.map_append, List.nodup_append] at hn
    exact hn.2.2 k (List.mem_map.2 ⟨(k, o), ha, rfl⟩) k (List.mem_map.2 ⟨(k, p), getL_flat (show getL L j = some B from hj) hb, rfl⟩) rfl
  | X :: L, i + 1, 0, A, B, k, o, p, hn, hi, hj, hij, ha, hb => by
    simp only [getL, Option.some.injEq] at hj
    subst hj
    rw [List.flatten_cons, List.map_append, List.nodup_append] at hn
    exact hn.2.2 k (List.mem_map.2 ⟨(k, p), hb, rfl⟩) k (List.mem_map.2 ⟨(k, o), getL_flat (show getL L i = some A from hi) ha, rfl⟩) rfl
  | X :: L, i + 1, j + 1, A, B, k, o, p, hn, hi, hj, hij, ha, hb => by
    rw [List.flatten_cons, List.map_append, List.nodup_append] at hn
    exact papart (L := L) hn.2.1 (show getL L i = some A from hi) (show getL L j = some B from hj) (fun e => hij (by rw [e])) ha hb
/-- these pieces, in this order -/
inductive Picks (L : SHeap) : List Nat → SHeap → Prop
  | nil : Picks L [] []
  | cons {i : Nat} {A : SPiece} {is : List Nat} {L' : SHeap} (hi : getL L i = some A) (h : Picks L is L') : Picks L (i :: is) (A :: L')
theorem Picks.mem {L L' : SHeap} {is : List Nat} (h : Picks L is L') {p : Nat × Obj} (hp : p ∈ L'.flatten) : ∃ j B, j ∈ is ∧ getL L j = some B ∧ p ∈ B := by
  induction h with
  | nil => simp at hp
  | @cons i A is L' hi h ih =>
    rw [List.flatten_cons, List.mem_append] at hp
    rcases hp with hp | hp
    · exact ⟨i, A, List.mem_cons_self .., hi, hp⟩
    · obtain ⟨j, B, h1, h2, h3⟩ := ih hp
      exact ⟨j, B, List.mem_cons_of_mem _ h1, h2, h3⟩
def nodupB : List Nat → Bool
  | [] => true
  | i :: is => !is.contains i && nodupB is
theorem _root_.Sx.SSt.picks {lo : SMut} {s w : World} {L L' : SHeap} {is : List Nat} (h : SSt lo s L w) (hp : Picks L is L') (hd : nodupB is = true) : SSt lo s L' w := by
  refine ⟨h.kept, fun b o hm => ?_, ?_⟩
  · obtain ⟨j, B, h1, h2, h3⟩ := hp.mem hm
    exact h.blocks b o (getL_flat h2 h3)
  · have hn := h.nodup
    clear h
    induction hp with
    | nil => exact List.nodup_nil
    | @cons i A is L' hi hp ih =>
      simp only [nodupB, Bool.and_eq_true, Bool.not_eq_true'] at hd
      rw [List.flatten_cons, List.map_append, List.nodup_append]
      refine ⟨((List.sublist_flatten_of_mem (getL_mem hi)).map _).nodup hn, ih hd.2, ?_⟩
      intro k hk k' hk' e
      subst e
      obtain ⟨⟨k1, o⟩, h1, rfl⟩ := List.mem_map.1 hk
      obtain ⟨⟨k2, p⟩, h2, h3⟩ := List.mem_map.1 hk'
      obtain ⟨j, B, h4, h5, h6⟩ := hp.mem h2
      dsimp only at h3
      subst h3
      refine papart hn hi h5 (fun e => ?_) h1 h6
      subst e
      have := hd.1
      rw [List.contains_eq_mem, decide_eq_false_iff_not] at this
      exact this h4
def lrev : SHeap → SHeap → SHeap
  | [], acc => acc
  | p :: r, acc => lrev r (p :: acc)
def lapp' : SHeap → SHeap → Option SHeap
  | [], acc => some acc
  | p :: r, acc => lapp' r (p :: acc)
def lapp (A B : SHeap) : Option SHeap := lapp' (lrev A []) B
section
variable {P : Program} {n : Nat} {lo : SMut} {s : World} {Q : Exit → Act → World → Prop} {E : SEnv} {L : SHeap}
end
end Go.Proofs.Ytfmjeakcfmmkfaa
/-
  Contracts: damage, by the reference.
-/
set_option linter.unusedVariables false
namespace Go.Proofs.Ytfmjeakcfmmkfaa
open Go Sx
attribute [local irreducible] Exit.then Exit.inBlock bodyPost OVs OInts canonR rowR points Sx.canon oriented scaled pictureOf rawPicture dlA dlB dlC dlO dlT dlU surfaceIndex mapFR
set_option maxRecDepth 100000 in
set_option maxHeartbeats 8000000 in
theorem c_sdamageOf (a t : DScene) (va vb : Value) (W : World) (hva : RS eSurf W va a.ss) (hvb : RS eSurf W vb t.ss) : SYieldsF Try.prog 59 #[vScene a va, vScene t vb] (fun u H => OReg u (damageOf a t) H) W := by
  have hae := hva
  have hbe := hvb
  obtain ⟨da, hva⟩ := hva
  obtain ⟨db, hvb⟩ := hvb
  have haf := hva.form
  have hbf := hvb.form
  obtain ⟨a1, a2, rfl⟩ := haf
  obtain ⟨b1, b2, rfl⟩ := hbf
  by_cases hok : a.ok ∧ t.ok
  · by_cases hsz : sameSize a t ∧ a.Back = t.Back
    · rw [damageOf_near hok.1 hok.2 hsz, ← dl_damage hok.1 hok.2]
      have hsz' : a.W = t.W ∧ a.H = t.H ∧ a.Back = t.Back := ⟨hsz.1.1, hsz.1.2, hsz.2⟩
      have hla := hok.1.2.2.2.1
      have hlb := hok.2.2.2.2.1
      have hia := fun (j : Nat) => index_lt a.ss (t.ss.getD ((j : Int)).toNat eSurf.dflt).Id
      have hib := fun (j : Nat) => index_lt t.ss (a.ss.getD ((j : Int)).toNat eSurf.dflt).Id
      have hz1 : dlA a t 0 = [] := by unfold dlA; rfl
      have hl1 := dlA_length a t
      have hl2 := fun i (h : i ≤ 6) => dlT_length (a := a) (b := t) hla h
      have hl3 := fun i k (h : i ≤ 6) (h' : k ≤ 6) => dlU_length (a := a) (b := t) hla h h'
      have hl4 : (dlT a t t.ss.length).length ≤ 48 := dlT_length hla hlb
      have hint : ∀ (q : Nat), q < (dlT a t t.ss.length).length → ∀ w, SYields Try.prog 148 #[vRect ((mapFR (fun r => r.inter (scrR t)) (dlT a t t.ss.length) q).getD q DRect.zero), vRect (scrR t)] (vRect (((dlT a t t.ss.length).getD q DRect.zero).inter (scrR t))) w := fun q hq w => by rw [mapFR_get _ _ hq]; exact c_sintersect _ _ w
      have hml := fun l j => mapFR_length (fun r => r.inter (scrR t)) l j
      (first | apply SYields.mk | apply SYieldsF.mk | skip); refine s_enter Try.func59 rfl Try.ntmps59 rfl ?_
      repeat' (first | exact rfl | (apply kO; (first | exact ov_pure rfl | (apply kOBin; (first | exact aBin | exact (ov_add rfl rfl (by have hq := hml (dlT a t t.ss.length) m.1; omega)))) | (apply kOCall; (first | (apply kCallF; (first | exact (ov_call rfl (fun w hw => c_ssceneOk a _ w (hae.keep (hw.cells rfl)))) | exact (ov_call rfl (fun w hw => c_ssceneOk t _ w (hbe.keep (hw.cells rfl)))) | exact (ov_call rfl (fun w hw => c_ssurfaceIndex a _ _ w (hae.keep (hw.cells rfl)))) | exact (ov_call rfl (fun w hw => c_ssurfaceIndex t _ _ w (hbe.keep (hw.cells rfl)))) | exact (ov_call rfl (fun w hw => c_ssurfaceRect (a.ss.getD j.1 default) (da j.1) w (RInts.keep (hva.rd _ (by omega)) (hw.cells rfl)))) | exact (ov_call rfl (fun w hw => c_ssameSurface (a.ss.getD j.1 default) (t.ss.getD (surfaceIndex t.ss (a.ss.getD j.1 default).Id).toNat default) (da j.1) (db (surfaceIndex t.ss (a.ss.getD j.1 default).Id).toNat) w (RInts.keep (hva.rd _ (by omega)) (hw.cells rfl)) (RInts.keep (hvb.rd _ (show (surfaceIndex t.ss (a.ss.getD ((j.1 : Int)).toNat eSurf.dflt).Id).toNat < t.ss.length from by have := hib j.1; omega)) (hw.cells rfl)))) | exact (ov_call rfl (fun w hw => c_ssameSurface (a.ss.getD (surfaceIndex a.ss (t.ss.getD i.1 default).Id).toNat default) (t.ss.getD i.1 default) (da (surfaceIndex a.ss (t.ss.getD i.1 default).Id).toNat) (db i.1) w (RInts.keep (hva.rd _ (show (surfaceIndex a.ss (t.ss.getD ((i.1 : Int)).toNat eSurf.dflt).Id).toNat < a.ss.length from by have := hia i.1; omega)) (hw.cells rfl)) (RInts.keep (hvb.rd _ (by omega)) (hw.cells rfl)))) | exact (ov_call rfl (fun w hw => c_ssurfaceRect (t.ss.getD i.1 default) (db i.1) w (RInts.keep (hvb.rd _ (by omega)) (hw.cells rfl)))) | exact (ov_call rfl (fun w hw => c_ssurfaceRect (t.ss.getD k.1 default) (db k.1) w (RInts.keep (hvb.rd _ (by omega)) (hw.cells rfl)))) | exact (ov_call rfl (fun w hw => c_sintersect (surfRect (t.ss.getD i.1 default)) (surfRect (t.ss.getD k.1 default)) w)) | exact (ov_call rfl (fun w hw => hint m.1 (by have hq := hml (dlT a t t.ss.length) m.1; omega) w)))) | (apply kCallB; (first | exact aBlt | exact (ov_lenR (fun w hw => ORects.rd hm2 (hfA hw)) rfl) | exact aLenR)))) | (apply kOLoad; (first | exact (ov_ldR (fun w hw => hva.row.keep (hw.cells rfl)) rfl rfl (by omega) rfl) | exact (ov_ldRZ (fun w hw => hva.row.keep (hw.cells rfl)) rfl rfl (by omega) rfl) | exact (ov_ldR (fun w hw => hvb.row.keep (hw.cells rfl)) rfl rfl (by omega) rfl) | exact (ov_ldRZ (fun w hw => hvb.row.keep (hw.cells rfl)) rfl rfl (by omega) rfl) | exact (ov_ldRZ (fun w hw => hva.row.keep (hw.cells rfl)) rfl rfl (by have := hia i.1; omega) rfl) | exact (ov_ldRZ (fun w hw => hvb.row.keep (hw.cells rfl)) rfl rfl (by have := hib j.1; omega) rfl) | exact (ov_ldRZ (fun w hw => ORects.rd hm2 (hfA hw)) rfl rfl (by have hq := hml (dlT a t t.ss.length) m.1; omega) rfl) | exact aLdF | exact aLdR)) | exact ov_fieldAddr rfl | (apply kOIdx; (first | exact (ov_idxR (fun w hw => hva.row.keep (hw.cells rfl)) rfl rfl (by omega)) | exact (ov_idxR (fun w hw => hvb.row.keep (hw.cells rfl)) rfl rfl (by omega)) | exact (ov_idxR (fun w hw => hva.row.keep (hw.cells rfl)) rfl rfl (by have := hia i.1; omega)) | exact (ov_idxR (fun w hw => hvb.row.keep (hw.cells rfl)) rfl rfl (by have := hib j.1; omega)) | exact (ov_idxR (fun w hw => ORects.rd hm2 (hfA hw)) rfl rfl (by have hq := hml (dlT a t t.ss.length) m.1; omega)) | exact aIdx)) | exact aRest | exact aNew | exact (ov_field1 (ft := 37) rfl rfl rfl rfl))) | (refine kN ?_; (first | (refine kCall ?_; (first | (refine kWApp ?_; (refine s_appendVs _ _ (c := cRect) (kk := 4) (a := surfRect (a.ss.getD j.1 default)) rfl rfl (by assumption) gpA gpA rfl rfl (by rw [scells_eq]; rfl) (by decide) (by have := hl1 j.1; omega) (by decide) rfl (fun v' H' hv' => ?_); have f1 := hv'.form; obtain ⟨ua, uc, rfl⟩ := f1)) | (refine kWApp ?_; (refine s_appendVs _ _ (c := cRect) (kk := 4) (a := surfRect (t.ss.getD i.1 default)) rfl rfl (by assumption) gpA gpA rfl rfl (by rw [scells_eq]; rfl) (by decide) (by have := hl2 i.1 (by omega); omega) (by decide) rfl (fun v' H' hv' => ?_); have f1 := hv'.form; obtain ⟨ua, uc, rfl⟩ := f1)) | (refine kWApp ?_; (refine s_appendVs _ _ (c := cRect) (kk := 4) (a := (surfRect (t.ss.getD i.1 default)).inter (surfRect (t.ss.getD k.1 default))) rfl rfl (by assumption) gpA gpA rfl rfl (by rw [scells_eq]; rfl) (by decide) (by have := hl3 i.1 k.1 (by omega) (by omega); omega) (by decide) rfl (fun v' H' hv' => ?_); have f1 := hv'.form; obtain ⟨ua, uc, rfl⟩ := f1)) | (refine kWFn 146 ?_; (refine s_callF (fun u H => OReg u (canon (points (mapFR (fun r => r.inter (scrR t)) (dlT a t t.ss.length) m.1))) H) rfl (fun w hw => c_sregionOf _ (mapFR (fun r => r.inter (scrR t)) (dlT a t t.ss.length) m.1) w (ORects.rd (by assumption) (hfA hw))) rfl (fun u H hu => ?_); obtain ⟨d', rfl, hu⟩ := hu)) | apply s_step)) | (refine kStore ?_; (first | (refine s_setVs _ (c := cRect) (kk := 4) (a := ((dlT a t t.ss.length).getD m.1 DRect.zero).inter (scrR t)) rfl rfl (by assumption) gpA (fun _ => rfl) rfl (by have hq := hml (dlT a t t.ss.length) m.1; omega) (fun H' hu => ?_)) | (refine s_storeS _ rfl rfl gpA rfl (ones_cons (OVs.one (by assumption)) rfl) (by rfl) ?_) | refine s_store1 _ rfl rfl gpA rfl (by rfl) ?_ | refine s_storeS _ rfl rfl gpA rfl rfl (by rfl) ?_ | refine s_storeS _ rfl rfl gpA rfl (ones_img oiA) (by rfl) ?_)) | refine s_boxS rfl rfl (fun b hb => ?_) | refine s_allocS rfl (fun b hb => ?_) | refine s_box1 rfl rfl rfl (fun b hb => ?_) | refine s_alloc1 rfl rfl (fun b hb => ?_) | refine s_buildSlice0 rfl (fun b hb => ?_) | refine s_buildSlice rfl rfl rfl rfl rfl (fun b hb => ?_) | apply s_step)) | (refine kG ?_; (first | refine s_gyes rfl rfl rfl ?_ | refine s_gno rfl rfl rfl rfl rfl ?_ | ((first | refine s_split_d rfl rfl (fun h => ?_) (fun h => ?_) | refine s_split_n rfl rfl (fun h => ?_) (fun h => ?_)) <;> (try (first | contradiction | (exfalso; omega) | (exfalso; exact absurd hok.1 (by assumption)) | (exfalso; exact absurd hok.2 (by assumption)) | (exfalso; (exfalso; omega))))) | refine s_split_nb rfl rfl (fun h => ?_) (fun h => ?_) | refine s_split rfl rfl (fun h => ?_) (fun h => ?_))) | (refine kS ?_; (first | refine h_exec rfl ?_ | refine h_take_nil rfl rfl rfl ?_ | refine h_take_pick rfl rfl rfl ?_ | refine h_nil ?_ | refine h_alt ?_ ?_ | apply h_take)) | (refine kBack ?_; (first | refine h_back_last rfl ?_ | refine h_backN rfl subA ?_)) | refine l_then ?_ | (refine kC ?_; (first | (refine kReg 24 ?_; refine c_regionSubN (SPlan.take 0 (SPlan.take 1 (SPlan.take 2 (SPlan.take 3 (SPlan.take 4 (SPlan.take 5 (SPlan.take 7 (SPlan.take 8 (SPlan.take 9 (SPlan.take 10 (SPlan.take 11 (SPlan.run 6 (SPlan.run 12 (SPlan.run 13 (SPlan.run 14 (SPlan.run 15 (SPlan.take 16 SPlan.done))))))))))))))))) none [false, true, true, true, true] rfl rfl rfl (by decide +kernel) ?_) | (refine kReg 28 ?_; refine c_regionSN (SPlan.take 0 (SPlan.take 1 (SPlan.take 2 (SPlan.take 3 (SPlan.take 4 (SPlan.take 5 (SPlan.take 6 (SPlan.run 7 (SPlan.take 8 (SPlan.run 9 SPlan.done)))))))))) (some 9) rfl rfl (by decide +kernel) ?_) | (refine kReg 28 ?_; refine c_regionSN (SPlan.take 0 (SPlan.take 1 (SPlan.take 2 (SPlan.take 3 (SPlan.take 4 (SPlan.take 5 (SPlan.take 6 (SPlan.run 7 (SPlan.take 8 (SPlan.run 9 SPlan.done)))))))))) none rfl rfl (by decide +kernel) ?_) | (refine kLoop 8 ?_; refine c_loopV (ι := Nat × Value × SPiece) (fun j => j.1 ≤ a.ss.length ∧ ORects j.2.1 (dlA a t j.1) j.2.2) (fun j => [(6, j.2.1), (7, .int .i64 (j.1 : Int))]) (fun j => [j.2.2, _, _, _, _]) (fun j => a.ss.length - j.1) (0, _, _) ⟨by dsimp only; omega, by dsimp only; rw [hz1]; exact OVs.empty _⟩ rfl (fun _ => rfl) ⟨rfl, rfl, trivial⟩ (fun w hw => hw) (fun j hj => ?_); obtain ⟨hj1, hj2⟩ := hj) | (refine kLoop 14 ?_; refine c_loopV (ι := Nat × Value × SPiece) (fun i => i.1 ≤ t.ss.length ∧ ORects i.2.1 (dlT a t i.1) i.2.2) (fun i => [(6, i.2.1), (9, .int .i64 (i.1 : Int))]) (fun i => [i.2.2, _, _, _, _]) (fun i => t.ss.length - i.1) (0, j.2.1, j.2.2) ⟨by dsimp only; omega, by dsimp only; rw [dlT_zero, show a.ss.length = j.1 by omega]; exact hj2⟩ rfl (fun _ => rfl) ⟨rfl, rfl, trivial⟩ (fun w hw => hw) (fun i hi => ?_); obtain ⟨hi1, hi2⟩ := hi) | (refine kLoop 20 ?_; refine c_loopV (ι := Nat × Value × SPiece) (fun k => k.1 ≤ i.1 ∧ ORects k.2.1 (dlU a t i.1 k.1) k.2.2) (fun k => [(6, k.2.1), (11, .int .i64 (k.1 : Int))]) (fun k => [k.2.2, _, _, _, _]) (fun k => i.1 - k.1) (0, _, _) ⟨by dsimp only; omega, by dsimp only; first | (rw [dlU_yes (by first | exact .inl (by assumption) | exact .inr (by assumption))]; exact hv') | (rw [dlU_no (fun e => e.elim (fun e => absurd e (by assumption)) (fun e => e (by assumption)))]; exact hi2)⟩ rfl (fun _ => rfl) ⟨rfl, rfl, trivial⟩ (fun w hw => by first | exact hw | exact hw.sub (selO_sub [false, true, true, true, true, true] _ _ rfl)) (fun k hk => ?_); obtain ⟨hk1, hk2⟩ := hk) | (refine kLoop 26 ?_; refine c_loopV (ι := Nat × SPiece) (fun m => m.1 ≤ (dlT a t t.ss.length).length ∧ ORects i.2.1 (mapFR (fun r => r.inter (scrR t)) (dlT a t t.ss.length) m.1) m.2) (fun m => [(13, .int .i64 (m.1 : Int))]) (fun m => [m.2, _, _, _, _]) (fun m => (dlT a t t.ss.length).length - m.1) (0, i.2.2) ⟨by dsimp only; omega, by dsimp only; rw [mapFR_zero, show t.ss.length = i.1 by omega]; exact hi2⟩ rfl (fun _ => rfl) ⟨rfl, trivial⟩ (fun w hw => hw) (fun m hm => ?_); obtain ⟨hm1, hm2⟩ := hm) | refine c_seq ?_ | refine c_regionN rfl ?_ | refine c_ret ?_ | (refine kCond ?_; (first | refine c_cond_t rfl ?_ | refine c_cond_f rfl ?_ | ((first | refine c_cond_d rfl (fun h => ?_) (fun h => ?_) | refine c_cond_n rfl (fun h => ?_) (fun h => ?_)) <;> (try (first | contradiction | (exfalso; omega) | (exfalso; exact absurd hok.1 (by assumption)) | (exfalso; exact absurd hok.2 (by assumption)) | (exfalso; (exfalso; omega))))) | refine c_cond_nb rfl (fun h => ?_) (fun h => ?_) | refine c_cond rfl (fun h => ?_) (fun h => ?_))) | refine c_block ?_ | refine c_skip ?_ | refine c_exit ?_ | refine c_regionQN rfl rfl (by decide +kernel) ?_)) | apply s_stepQ | (refine kQG ?_; (first | refine s_gyesQ rfl rfl rfl ?_ | refine s_gnoQ rfl rfl rfl rfl rfl ?_ | ((first | refine s_splitQ_d rfl rfl (fun h => ?_) (fun h => ?_) | refine s_splitQ_n rfl rfl (fun h => ?_) (fun h => ?_)) <;> (try (first | contradiction | (exfalso; omega) | (exfalso; exact absurd hok.1 (by assumption)) | (exfalso; exact absurd hok.2 (by assumption)) | (exfalso; (exfalso; omega))))) | refine s_splitQ_nb rfl rfl (fun h => ?_) (fun h => ?_) | refine s_splitQ rfl rfl (fun h => ?_) (fun h => ?_))) | refine lQ_then ?_ | refine lQ_ends ?_ | (refine kE ?_; (first | refine e_then_r ?_ | refine e_block_r ?_ | refine e_then_n ?_ | refine e_then_x ?_ | refine e_block_n ?_ | refine e_block_x ?_ | refine e_block_y rfl ?_)) | refine l_ends ?_)
      · exact e_round (j.1 + 1, _, H') ⟨by dsimp only; omega, by dsimp only; rw [dlA_yes (.inl (by assumption))]; exact hv'⟩ ⟨slook_to rfl rfl, slook_to rfl (vint_to (by push_cast; rfl)), (by repeat' first | exact trivial | refine ⟨rfl, ?_⟩)⟩ (fun w hw => hw.picks (by (repeat' first | exact Picks.nil | exact gp_hd | apply gp_tl | apply Picks.cons); done) (by rfl)) (by dsimp only; omega)
      · exact e_round (j.1 + 1, _, H') ⟨by dsimp only; omega, by dsimp only; rw [dlA_yes (.inr (by assumption))]; exact hv'⟩ ⟨slook_to rfl rfl, slook_to rfl (vint_to (by push_cast; rfl)), (by repeat' first | exact trivial | refine ⟨rfl, ?_⟩)⟩ (fun w hw => hw.picks (by (repeat' first | exact Picks.nil | exact gp_hd | apply gp_tl | apply Picks.cons); done) (by rfl)) (by dsimp only; omega)
      · exact e_round (j.1 + 1, j.2.1, j.2.2) ⟨by dsimp only; omega, by dsimp only; rw [dlA_no (fun e => e.elim (fun e => absurd e (by assumption)) (fun e => e (by assumption)))]; exact hj2⟩ ⟨slook_to rfl rfl, slook_to rfl (vint_to (by push_cast; rfl)), (by repeat' first | exact trivial | refine ⟨rfl, ?_⟩)⟩ (fun w hw => hw.picks (by (repeat' first | exact Picks.nil | exact gp_hd | apply gp_tl | apply Picks.cons); done) (by rfl)) (by dsimp only; omega)
      · have hne : ¬ (0 ≤ surfaceIndex a.ss (t.ss.getD i.1 default).Id ∧ surfaceIndex a.ss (t.ss.getD i.1 default).Id < surfaceIndex a.ss (t.ss.getD k.1 default).Id) := fun hh => absurd hh.1 (by assumption)
        exact e_round (k.1 + 1, k.2.1, k.2.2) ⟨by dsimp only; omega, by dsimp only; rw [dlU_skip hne]; exact hk2⟩ ⟨slook_to rfl rfl, slook_to rfl (vint_to (by push_cast; rfl)), (by repeat' first | exact trivial | refine ⟨rfl, ?_⟩)⟩ (fun w hw => hw.picks (by (repeat' first | exact Picks.nil | exact gp_hd | apply gp_tl | apply Picks.cons); done) (by rfl)) (by dsimp only; omega)
      · have e : k.1 = i.1 := by omega
        rw [e, dlU_all] at hk2
        exact e_round (i.1 + 1, k.2.1, k.2.2) ⟨by dsimp only; omega, hk2⟩ ⟨slook_to rfl rfl, slook_to rfl (vint_to (by push_cast; rfl)), (by repeat' first | exact trivial | refine ⟨rfl, ?_⟩)⟩ (fun w hw => hw.picks (by (repeat' first | exact Picks.nil | exact gp_hd | apply gp_tl | apply Picks.cons); done) (by rfl)) (by dsimp only; omega)
      · exact e_round (k.1 + 1, _, H') ⟨by dsimp only; omega, by dsimp only; rw [dlU_add ⟨by assumption, by assumption⟩]; exact hv'⟩ ⟨slook_to rfl rfl, slook_to rfl (vint_to (by push_cast; rfl)), (by repeat' first | exact trivial | refine ⟨rfl, ?_⟩)⟩ (fun w hw => hw.picks (by (repeat' first | exact Picks.nil | exact gp_hd | apply gp_tl | apply Picks.cons); done) (by rfl)) (by dsimp only; omega)
      · have hne : ¬ (0 ≤ surfaceIndex a.ss (t.ss.getD i.1 default).Id ∧ surfaceIndex a.ss (t.ss.getD i.1 default).Id < surfaceIndex a.ss (t.ss.getD k.1 default).Id) := fun hh => absurd hh.2 (by assumption)
        exact e_round (k.1 + 1, k.2.1, k.2.2) ⟨by dsimp only; omega, by dsimp only; rw [dlU_skip hne]; exact hk2⟩ ⟨slook_to rfl rfl, slook_to rfl (vint_to (by push_cast; rfl)), (by repeat' first | exact trivial | refine ⟨rfl, ?_⟩)⟩ (fun w hw => hw.picks (by (repeat' first | exact Picks.nil | exact gp_hd | apply gp_tl | apply Picks.cons); done) (by rfl)) (by dsimp only; omega)
      · have e : k.1 = i.1 := by omega
        rw [e, dlU_all] at hk2
        exact e_round (i.1 + 1, k.2.1, k.2.2) ⟨by dsimp only; omega, hk2⟩ ⟨slook_to rfl rfl, slook_to rfl (vint_to (by push_cast; rfl)), (by repeat' first | exact trivial | refine ⟨rfl, ?_⟩)⟩ (fun w hw => hw.picks (by (repeat' first | exact Picks.nil | exact gp_hd | apply gp_tl | apply Picks.cons); done) (by rfl)) (by dsimp only; omega)
      · exact e_round (k.1 + 1, _, H') ⟨by dsimp only; omega, by dsimp only; rw [dlU_add ⟨by assumption, by assumption⟩]; exact hv'⟩ ⟨slook_to rfl rfl, slook_to rfl (vint_to (by push_cast; rfl)), (by repeat' first | exact trivial | refine ⟨rfl, ?_⟩)⟩ (fun w hw => hw.picks (by (repeat' first | exact Picks.nil | exact gp_hd | apply gp_tl | apply Picks.cons); done) (by rfl)) (by dsimp only; omega)
      · have hne : ¬ (0 ≤ surfaceIndex a.ss (t.ss.getD i.1 default).Id ∧ surfaceIndex a.ss (t.ss.getD i.1 default).Id < surfaceIndex a.ss (t.ss.getD k.1 default).Id) := fun hh => absurd hh.2 (by assumption)
        exact e_round (k.1 + 1, k.2.1, k.2.2) ⟨by dsimp only; omega, by dsimp only; rw [dlU_skip hne]; exact hk2⟩ ⟨slook_to rfl rfl, slook_to rfl (vint_to (by push_cast; rfl)), (by repeat' first | exact trivial | refine ⟨rfl, ?_⟩)⟩ (fun w hw => hw.picks (by (repeat' first | exact Picks.nil | exact gp_hd | apply gp_tl | apply Picks.cons); done) (by rfl)) (by dsimp only; omega)
      · have e : k.1 = i.1 := by omega
        rw [e, dlU_all] at hk2
        exact e_round (i.1 + 1, k.2.1, k.2.2) ⟨by dsimp only; omega, hk2⟩ ⟨slook_to rfl rfl, slook_to rfl (vint_to (by push_cast; rfl)), (by repeat' first | exact trivial | refine ⟨rfl, ?_⟩)⟩ (fun w hw => hw.picks (by (repeat' first | exact Picks.nil | exact gp_hd | apply gp_tl | apply Picks.cons); done) (by rfl)) (by dsimp only; omega)
      · have hq := hml (dlT a t t.ss.length) m.1
        have e : (mapFR (fun r => r.inter (scrR t)) (dlT a t t.ss.length) m.1).set ((m.1 : Int)).toNat (((dlT a t t.ss.length).getD m.1 DRect.zero).inter (scrR t)) = mapFR (fun r => r.inter (scrR t)) (dlT a t t.ss.length) (m.1 + 1) := by
          rw [Int.toNat_natCast]; exact mapFR_set (fun r => r.inter (scrR t)) _ (by omega)
        rw [e] at hu
        exact e_round (m.1 + 1, H') ⟨by dsimp only; omega, hu⟩ ⟨slook_to rfl (vint_to (by push_cast; rfl)), (by repeat' first | exact trivial | refine ⟨rfl, ?_⟩)⟩ (fun w hw => hw.picks (by (repeat' first | exact Picks.nil | exact gp_hd | apply gp_tl | apply Picks.cons); done) (by rfl)) (by dsimp only; omega)
      · have hq := hml (dlT a t t.ss.length) m.1
        have e : mapFR (fun r => r.inter (scrR t)) (dlT a t t.ss.length) m.1 = (dlA a t a.ss.length ++ dlB a t t.ss.length).map (·.inter (scrR t)) := by
          rw [mapFR_all _ _ (by omega)]; unfold dlT; rfl
        rw [e] at hu
        exact s_leaveSF rfl rfl rfl fwA (fun w hw => ⟨_, _, rfl, ⟨_, rfl, hu⟩, hw.toFresh (H := H) gpA⟩)
    · rw [damageOf_far hok.1 hok.2 hsz]
      have hsz' : ¬ (a.W = t.W ∧ a.H = t.H ∧ a.Back = t.Back) := fun e => hsz ⟨⟨e.1, e.2.1⟩, e.2.2⟩
      rw [show scrG t = points [scrR t] from (points_one (scrR t)).symm]
      (first | apply SYields.mk | apply SYieldsF.mk | skip); refine s_enter Try.func59 rfl Try.ntmps59 rfl ?_
      repeat' (first | exact rfl | (apply kO; (first | exact ov_pure rfl | (apply kOBin; (first | exact aBin)) | (apply kOCall; (first | (apply kCallF; (first | exact (ov_call rfl (fun w hw => c_ssceneOk a _ w (hae.keep (hw.cells rfl)))) | exact (ov_call rfl (fun w hw => c_ssceneOk t _ w (hbe.keep (hw.cells rfl)))))) | (apply kCallB; (first | exact aBlt | exact aLenR)))) | (apply kOLoad; (first | exact aLdF | exact aLdR)) | exact ov_fieldAddr rfl | (apply kOIdx; (first | exact aIdx)) | exact aRest | exact aNew | exact (ov_field1 (ft := 37) rfl rfl rfl rfl))) | (refine kN ?_; (first | (refine kCall ?_; (first | (refine kWFn 146 ?_; (refine s_callF (fun u H => OReg u (canon (points [scrR t])) H) rfl (fun w hw => c_sregionOf _ [scrR t] w (ORects.rd (OVs.whole (c := cRect) (k := 4) (T := 73) (fun _ => rfl) _ [scrR t] (Nat.le_of_ble_eq_true rfl)) (hfA hw))) rfl (fun u H hu => ?_); obtain ⟨d', rfl, hu⟩ := hu)) | apply s_step)) | (refine kStore ?_; (first | (refine s_storeS _ rfl rfl gpA rfl (ones_cons (OVs.one (by assumption)) rfl) (by rfl) ?_) | refine s_store1 _ rfl rfl gpA rfl (by rfl) ?_ | refine s_storeS _ rfl rfl gpA rfl rfl (by rfl) ?_ | refine s_storeS _ rfl rfl gpA rfl (ones_img oiA) (by rfl) ?_)) | refine s_boxS rfl rfl (fun b hb => ?_) | refine s_allocS rfl (fun b hb => ?_) | refine s_box1 rfl rfl rfl (fun b hb => ?_) | refine s_alloc1 rfl rfl (fun b hb => ?_) | refine s_buildSlice0 rfl (fun b hb => ?_) | refine s_buildSlice rfl rfl rfl rfl rfl (fun b hb => ?_) | apply s_step)) | (refine kG ?_; (first | refine s_gyes rfl rfl rfl ?_ | refine s_gno rfl rfl rfl rfl rfl ?_ | ((first | refine s_split_d rfl rfl (fun h => ?_) (fun h => ?_) | refine s_split_n rfl rfl (fun h => ?_) (fun h => ?_)) <;> (try (first | contradiction | (exfalso; omega) | (exfalso; exact absurd hok.1 (by assumption)) | (exfalso; exact absurd hok.2 (by assumption)) | (exfalso; (exfalso; omega))))) | refine s_split_nb rfl rfl (fun h => ?_) (fun h => ?_) | refine s_split rfl rfl (fun h => ?_) (fun h => ?_))) | (refine kS ?_; (first | refine h_exec rfl ?_ | refine h_take_nil rfl rfl rfl ?_ | refine h_take_pick rfl rfl rfl ?_ | refine h_nil ?_ | refine h_alt ?_ ?_ | apply h_take)) | (refine kBack ?_; (first | refine h_back_last rfl ?_ | refine h_backN rfl subA ?_)) | refine l_then ?_ | (refine kC ?_; (first | (refine kReg 10 ?_; refine c_regionSubN (SPlan.take 0 (SPlan.take 1 (SPlan.take 2 (SPlan.take 3 (SPlan.take 4 (SPlan.take 5 (SPlan.take 6 (SPlan.run 7 (SPlan.take 8 SPlan.done))))))))) none [false, true, true, true, true] rfl rfl rfl (by decide +kernel) ?_) | (refine kReg 11 ?_; refine c_regionSubN (SPlan.take 0 (SPlan.take 1 (SPlan.take 2 (SPlan.take 3 (SPlan.take 4 (SPlan.take 5 (SPlan.take 6 (SPlan.take 7 (SPlan.take 8 (SPlan.take 9 (SPlan.take 10 (SPlan.take 11 (SPlan.take 12 (SPlan.run 13 (SPlan.take 14 (SPlan.take 15 SPlan.done)))))))))))))))) none [false, true, true, true, true] rfl rfl rfl (by decide +kernel) ?_) | (refine kReg 16 ?_; refine c_regionSubN (SPlan.take 0 (SPlan.take 1 (SPlan.take 2 (SPlan.take 3 (SPlan.take 4 (SPlan.take 5 (SPlan.take 6 (SPlan.run 7 (SPlan.take 8 SPlan.done))))))))) none [false, true, true, true, true] rfl rfl rfl (by decide +kernel) ?_) | (refine kReg 17 ?_; refine c_regionSubN (SPlan.take 0 (SPlan.take 1 (SPlan.take 2 (SPlan.take 3 (SPlan.take 4 (SPlan.take 5 (SPlan.take 6 (SPlan.take 7 (SPlan.take 8 (SPlan.take 9 (SPlan.take 10 (SPlan.take 11 (SPlan.take 12 (SPlan.run 13 (SPlan.take 14 (SPlan.take 15 SPlan.done)))))))))))))))) none [false, true, true, true, true] rfl rfl rfl (by decide +kernel) ?_) | (refine kReg 22 ?_; refine c_regionSubN (SPlan.take 0 (SPlan.take 1 (SPlan.take 2 (SPlan.take 3 (SPlan.take 4 (SPlan.take 5 (SPlan.take 6 (SPlan.run 7 (SPlan.take 8 SPlan.done))))))))) none [false, true, true, true, true] rfl rfl rfl (by decide +kernel) ?_) | (refine kReg 24 ?_; refine c_regionSubN (SPlan.take 0 (SPlan.take 1 (SPlan.take 2 (SPlan.take 3 (SPlan.take 4 (SPlan.take 5 (SPlan.take 7 (SPlan.take 8 (SPlan.take 9 (SPlan.take 10 (SPlan.take 11 (SPlan.run 6 (SPlan.run 12 (SPlan.run 13 (SPlan.run 14 (SPlan.run 15 (SPlan.take 16 SPlan.done))))))))))))))))) none [false, true, true, true, true] rfl rfl rfl (by decide +kernel) ?_) | (refine kReg 28 ?_; refine c_regionSubN (SPlan.take 0 (SPlan.take 1 (SPlan.take 2 (SPlan.take 3 (SPlan.take 4 (SPlan.take 5 (SPlan.take 6 (SPlan.run 7 (SPlan.take 8 (SPlan.run 9 SPlan.done)))))))))) (some 9) [false, true, true, true, true] rfl rfl rfl (by decide +kernel) ?_) | refine c_seq ?_ | refine c_regionN rfl ?_ | refine c_ret ?_ | (refine kCond ?_; (first | refine c_cond_t rfl ?_ | refine c_cond_f rfl ?_ | ((first | refine c_cond_d rfl (fun h => ?_) (fun h => ?_) | refine c_cond_n rfl (fun h => ?_) (fun h => ?_)) <;> (try (first | contradiction | (exfalso; omega) | (exfalso; exact absurd hok.1 (by assumption)) | (exfalso; exact absurd hok.2 (by assumption)) | (exfalso; (exfalso; omega))))) | refine c_cond_nb rfl (fun h => ?_) (fun h => ?_) | refine c_cond rfl (fun h => ?_) (fun h => ?_))) | refine c_block ?_ | refine c_skip ?_ | refine c_exit ?_ | refine c_regionQN rfl rfl (by decide +kernel) ?_)) | apply s_stepQ | (refine kQG ?_; (first | refine s_gyesQ rfl rfl rfl ?_ | refine s_gnoQ rfl rfl rfl rfl rfl ?_ | ((first | refine s_splitQ_d rfl rfl (fun h => ?_) (fun h => ?_) | refine s_splitQ_n rfl rfl (fun h => ?_) (fun h => ?_)) <;> (try (first | contradiction | (exfalso; omega) | (exfalso; exact absurd hok.1 (by assumption)) | (exfalso; exact absurd hok.2 (by assumption)) | (exfalso; (exfalso; omega))))) | refine s_splitQ_nb rfl rfl (fun h => ?_) (fun h => ?_) | refine s_splitQ rfl rfl (fun h => ?_) (fun h => ?_))) | refine lQ_then ?_ | refine lQ_ends ?_ | (refine kE ?_; (first | refine e_then_r ?_ | refine e_block_r ?_ | refine e_then_n ?_ | refine e_then_x ?_ | refine e_block_n ?_ | refine e_block_x ?_ | refine e_block_y rfl ?_)) | refine l_ends ?_)
      all_goals (refine kE ?_; refine s_leaveSF rfl rfl rfl fwA (fun w hw => ?_))
      all_goals exact ⟨_, _, rfl, ⟨_, rfl, hu⟩, hw.toFresh (H := H) gpA⟩
  · rw [damageOf_bad hok]
    (first | apply SYields.mk | apply SYieldsF.mk | skip); refine s_enter Try.func59 rfl Try.ntmps59 rfl ?_
    repeat' (first | exact rfl | (apply kO; (first | exact ov_pure rfl | (apply kOBin; (first | exact aBin)) | (apply kOCall; (first | (apply kCallF; (first | exact (ov_call rfl (fun w hw => c_ssceneOk a _ w (hae.keep (hw.cells rfl)))) | exact (ov_call rfl (fun w hw => c_ssceneOk t _ w (hbe.keep (hw.cells rfl)))))) | (apply kCallB; (first | exact aBlt | exact aLenR)))) | (apply kOLoad; (first | exact aLdF | exact aLdR)) | exact ov_fieldAddr rfl | (apply kOIdx; (first | exact aIdx)) | exact aRest | exact aNew | exact (ov_field1 (ft := 37) rfl rfl rfl rfl))) | (refine kN ?_; (first | (refine kStore ?_; (first | refine s_store1 _ rfl rfl gpA rfl (by rfl) ?_ | refine s_storeS _ rfl rfl gpA rfl rfl (by rfl) ?_ | refine s_storeS _ rfl rfl gpA rfl (ones_img oiA) (by rfl) ?_)) | refine s_boxS rfl rfl (fun b hb => ?_) | refine s_allocS rfl (fun b hb => ?_) | refine s_box1 rfl rfl rfl (fun b hb => ?_) | refine s_alloc1 rfl rfl (fun b hb => ?_) | refine s_buildSlice0 rfl (fun b hb => ?_) | refine s_buildSlice rfl rfl rfl rfl rfl (fun b hb => ?_) | apply s_step)) | (refine kG ?_; (first | refine s_gyes rfl rfl rfl ?_ | refine s_gno rfl rfl rfl rfl rfl ?_ | ((first | refine s_split_d rfl rfl (fun h => ?_) (fun h => ?_) | refine s_split_n rfl rfl (fun h => ?_) (fun h => ?_)) <;> (try (first | contradiction | (exfalso; omega) | (exfalso; exact absurd ⟨by assumption, by assumption⟩ hok)))) | refine s_split_nb rfl rfl (fun h => ?_) (fun h => ?_) | refine s_split rfl rfl (fun h => ?_) (fun h => ?_))) | refine l_then ?_ | (refine kC ?_; (first | refine c_seq ?_ | refine c_regionN rfl ?_ | refine c_ret ?_ | (refine kCond ?_; (first | refine c_cond_t rfl ?_ | refine c_cond_f rfl ?_ | ((first | refine c_cond_d rfl (fun h => ?_) (fun h => ?_) | refine c_cond_n rfl (fun h => ?_) (fun h => ?_)) <;> (try (first | contradiction | (exfalso; omega) | (exfalso; exact absurd ⟨by assumption, by assumption⟩ hok)))) | refine c_cond_nb rfl (fun h => ?_) (fun h => ?_) | refine c_cond rfl (fun h => ?_) (fun h => ?_))) | refine c_block ?_ | refine c_skip ?_ | refine c_exit ?_ | refine c_regionQN rfl rfl (by decide +kernel) ?_)) | apply s_stepQ | (refine kQG ?_; (first | refine s_gyesQ rfl rfl rfl ?_ | refine s_gnoQ rfl rfl rfl rfl rfl ?_ | ((first | refine s_splitQ_d rfl rfl (fun h => ?_) (fun h => ?_) | refine s_splitQ_n rfl rfl (fun h => ?_) (fun h => ?_)) <;> (try (first | contradiction | (exfalso; omega) | (exfalso; exact absurd ⟨by assumption, by assumption⟩ hok)))) | refine s_splitQ_nb rfl rfl (fun h => ?_) (fun h => ?_) | refine s_splitQ rfl rfl (fun h => ?_) (fun h => ?_))) | refine lQ_then ?_ | refine lQ_ends ?_ | (refine kE ?_; (first | refine e_then_r ?_ | refine e_block_r ?_ | refine e_then_n ?_ | refine e_then_x ?_ | refine e_block_n ?_ | refine e_block_x ?_ | refine e_block_y rfl ?_)) | refine l_ends ?_)
    all_goals (refine kE ?_; refine s_leaveSF rfl rfl rfl fwA (fun w hw => ?_))
    all_goals exact ⟨_, [], rfl, ⟨_, rfl, OVs.nil⟩, hw.toFresh0⟩
end Go.Proofs.Ytfmjeakcfmmkfaa
/-
  Rules: rows of structs, taken apart and put together. Nothing of any one program.
-/
set_option linter.unusedVariables false
namespace Go.Proofs.Ytfmjeakcfmmkfaa
open Go Sx
attribute [local irreducible] Exit.then Exit.inBlock bodyPost tcells OInts OElems
theorem oneCells_append : ∀ {a c : List Value}, oneCells a = true → oneCells c = true → oneCells (a ++ c) = true
  | [], c, _, h => h
  | x :: a, c, h, h2 => by
    simp only [oneCells, Bool.and_eq_true] at h
    rw [List.cons_append]
    exact ones_cons h.1 (oneCells_append h.2 h2)
theorem tcells_ones : ∀ {T : List (ETri DSurf)}, (∀ t ∈ T, eSurf.own t.2.1 t.1 t.2.2) → oneCells (tcells eSurf T) = true
  | [], _ => by unfold tcells; rfl
  | t :: T, h => by
    rw [tcells_cons]
    exact oneCells_append (eSurf_ones (OInts.one (h t (List.mem_cons_self ..)))) (tcells_ones (fun u hu => h u (List.mem_cons_of_mem _ hu)))
theorem tcells_drop {T : List (ETri DSurf)} (k : Nat) : (tcells eSurf T).drop (k * 11) = tcells eSurf (T.drop k) := by
  by_cases h : k ≤ T.length
  · conv => lhs; rw [← List.take_append_drop k T, tcells_append]
    rw [List.drop_left' (by rw [tcells_length, List.length_take, Nat.min_eq_left h]; rfl)]
  · rw [List.drop_of_length_le (by rw [tcells_length]; show T.length * 11 ≤ _; omega), List.drop_of_length_le (by omega)]
    unfold tcells; rfl
theorem tcells_take {T : List (ETri DSurf)} {k : Nat} (h : k ≤ T.length) : (tcells eSurf T).take (k * 11) = tcells eSurf (T.take k) := by
  conv => lhs; rw [← List.take_append_drop k T, tcells_append]
  rw [List.take_left' (by rw [tcells_length, List.length_take, Nat.min_eq_left h]; rfl)]
theorem tcells_erase {T : List (ETri DSurf)} {k : Nat} : tcells eSurf (T.eraseIdx k) = tcells eSurf (T.take k) ++ tcells eSurf (T.drop (k + 1)) := by
  rw [← tcells_append, List.eraseIdx_eq_take_drop_succ]
theorem RInts.keepN {lo : SMut} {s w : World} {L : SHeap} {v : Value} {l : List Int} (h : RInts s v l) (hv : 0 < l.length → Apart lo v) (hw : SSt lo s L w) : RInts w v l := by
  by_cases hl : 0 < l.length
  · exact RInts.keepM h (hv hl) hw
  · exact ⟨RRow.form h, RRow.len h, RRow.size h, fun i hi => absurd hi (by omega), RRow.room h⟩
theorem holds_app {w : World} {A B : SPiece} (ha : Holds w A) (hb : Holds w B) : Holds w (A ++ B) := fun c o hm => by
  rcases List.mem_append.1 hm with hm | hm
  · exact ha c o hm
  · exact hb c o hm
theorem SSt_two {lo : SMut} {s w : World} {A B : SPiece} (h : SSt lo s [A, B] w) : SSt lo s [A ++ B, []] w := h.perm (by simp)
theorem SSt_three {lo : SMut} {s w : World} {A B C : SPiece} (h : SSt lo s [A, B, C] w) : SSt lo s [A ++ (B ++ C), []] w := h.perm (by simp)
theorem trow {U : TypeId} {v : Value} {T : List (ETri DSurf)} {H0 : SPiece} {w : World} (h1 : OVec eSurf.k U v T.length (tcells eSurf T) H0) (hw : Holds w H0) : RRow w v eSurf.k T.length (fun i => eSurf.cells (T.getD i dT).1 (T.getD i dT).2.1) :=
  OVec.reads h1 hw (Nat.le_trans (OVec.le h1) (by decide)) (fun i hi => eSurf.klen _ _) (by unfold tcells; exact (flatMap_get (fun t : ETri DSurf => eSurf.cells t.1 t.2.1) dT T).symm)
theorem T_cut {T : List (ETri DSurf)} {k : Nat} (h : k < T.length) : T = T.take k ++ T.getD k dT :: T.drop (k + 1) := by
  conv => lhs; rw [← List.take_append_drop k T, drop_getT h]
theorem T_set {T : List (ETri DSurf)} {k : Nat} (h : k < T.length) (t : ETri DSurf) : T.set k t = T.take k ++ t :: T.drop (k + 1) := by
  rw [List.set_eq_take_append_cons_drop, if_pos h]
theorem tcells_at {T : List (ETri DSurf)} {k : Nat} (h : k < T.length) (r : List Value) : tcells eSurf T ++ r = tcells eSurf (T.take k) ++ (eSurf.cells (T.getD k dT).1 (T.getD k dT).2.1 ++ (tcells eSurf (T.drop (k + 1)) ++ r)) := by
  conv => lhs; rw [T_cut h]
  rw [tcells_append, tcells_cons, List.append_assoc, List.append_assoc]
theorem tcells_takeL {T : List (ETri DSurf)} {k : Nat} (h : k ≤ T.length) : (tcells eSurf (T.take k)).length = k * 11 := by
  rw [tcells_length, List.length_take, Nat.min_eq_left h]; rfl
theorem tcells_set {T : List (ETri DSurf)} {k o : Nat} {u : Value} {a' : DSurf} {r : List Value} (hk : k < T.length) (ho : o < 11) (he : (eSurf.cells (T.getD k dT).1 (T.getD k dT).2.1).set o u = eSurf.cells a' (T.getD k dT).2.1) :
    (tcells eSurf T ++ r).set (k * 11 + o) u = tcells eSurf (T.set k (a', (T.getD k dT).2.1, (T.getD k dT).2.2)) ++ r := by
  have hl := tcells_takeL (T := T) (k := k) (by omega)
  rw [tcells_at hk, T_set hk, tcells_append, tcells_cons, List.append_assoc, List.append_assoc]
  rw [List.set_append_right _ _ (by omega), hl, Nat.add_sub_cancel_left, List.set_append_left _ _ (by rw [eSurf.klen]; exact ho), he]
theorem set_mid {A B C : List Value} {i : Nat} (h : i < B.length) (u : Value) : (A ++ (B ++ C)).set (A.length + i) u = A ++ (B.set i u ++ C) := by
  rw [List.set_append_right _ _ (by omega), Nat.add_sub_cancel_left, List.set_append_left _ _ h]
theorem tcells_set2 {T : List (ETri DSurf)} {k o o2 : Nat} {u u2 : Value} {a' : DSurf} {r : List Value} (hk : k < T.length) (ho : o < 11) (ho2 : o2 < 11) (he : ((eSurf.cells (T.getD k dT).1 (T.getD k dT).2.1).set o u).set o2 u2 = eSurf.cells a' (T.getD k dT).2.1) :
    ((tcells eSurf T ++ r).set (k * 11 + o) u).set (k * 11 + o2) u2 = tcells eSurf (T.set k (a', (T.getD k dT).2.1, (T.getD k dT).2.2)) ++ r := by
  have hl := tcells_takeL (T := T) (k := k) (by omega)
  have hk11 : (eSurf.cells (T.getD k dT).1 (T.getD k dT).2.1).length = 11 := eSurf.klen _ _
  rw [tcells_at hk, T_set hk, tcells_append, tcells_cons, List.append_assoc, List.append_assoc, ← hl, set_mid (by omega), set_mid (by rw [List.length_set]; omega), he]
theorem tcells_buf {T : List (ETri DSurf)} {k : Nat} {i : DImg} {d' : Value} {Hc : SPiece} {a : DSurf} {r : List Value} (hk : k < T.length) (ha : (T.getD k dT).1 = a) :
    (tcells eSurf T ++ r).take (k * 11 + 8) ++ [.int .i64 i.W, .int .i64 i.H, d'] ++ (tcells eSurf T ++ r).drop (k * 11 + 8 + 3) = tcells eSurf (T.set k ({ a with buf := i }, d', Hc)) ++ r := by
  have hl := tcells_takeL (T := T) (k := k) (by omega)
  rw [tcells_at hk, T_set hk, tcells_append, tcells_cons, List.append_assoc, List.append_assoc, ha]
  have e1 : (tcells eSurf (T.take k)).drop (k * 11 + 8 + 3) = [] := List.drop_of_length_le (by omega)
  have e2 : (tcells eSurf (T.take k)).take (k * 11 + 8) = tcells eSurf (T.take k) := List.take_of_length_le (by omega)
  rw [List.take_append, List.drop_append, e1, e2, hl, Nat.add_sub_cancel_left, List.nil_append, show k * 11 + 8 + 3 - k * 11 = 11 by omega, List.append_assoc]
  rfl
theorem tpiece_set {T : List (ETri DSurf)} {k : Nat} (hk : k < T.length) (a' : DSurf) (d' : Value) : tpiece (T.set k (a', d', (T.getD k dT).2.2)) = tpiece T := by
  conv => rhs; rw [T_cut hk]
  rw [T_set hk, tpiece_append, tpiece_append, tpiece_cons, tpiece_cons]
theorem map_setT {T : List (ETri DSurf)} {k : Nat} (t : ETri DSurf) : (T.set k t).map (·.1) = (T.map (·.1)).set k t.1 := by rw [List.map_set]
theorem own_set {T : List (ETri DSurf)} {k : Nat} {t : ETri DSurf} (h : ∀ u ∈ T, eSurf.own u.2.1 u.1 u.2.2) (ht : eSurf.own t.2.1 t.1 t.2.2) : ∀ u ∈ T.set k t, eSurf.own u.2.1 u.1 u.2.2 := fun u hu => by
  rcases List.mem_or_eq_of_mem_set hu with hu | hu
  · exact h u hu
  · rw [hu]; exact ht
end Go.Proofs.Ytfmjeakcfmmkfaa
/-
  Contracts: scenes that are copied, by both.
-/
set_option linter.unusedVariables false
namespace Go.Proofs.Ytfmjeakcfmmkfaa
open Go Sx
attribute [local irreducible] Exit.then Exit.inBlock bodyPost OInts OElems
theorem c_copySurface (s : DSurf) (d : Value) (W : World) (hd : RInts W d s.buf.data) (hl : s.buf.data.length ≤ 1000000000) : SYieldsF Try.prog 186 #[vSurf s d] (fun u H => OSurf u s H) W := by
  have hd' := hd.form
  obtain ⟨_, _, rfl⟩ := hd'
  (first | apply SYields.mk | apply SYieldsF.mk | skip); refine s_enter Try.func186 rfl Try.ntmps186 rfl ?_
  repeat' (first | exact rfl | (apply kO; (first | exact ov_pure rfl | (apply kOBin; (first | exact aBin)) | (apply kOCall; (first | (apply kCallB; (first | exact aBlt | exact aLenR)))) | (apply kOLoad; (first | exact aLdF | exact aLdR)) | exact ov_fieldAddr rfl | (apply kOIdx; (first | exact aIdx)) | exact aRest | exact aNew | exact (ov_field1 (ft := 37) rfl rfl rfl rfl))) | (refine kN ?_; (first | (refine kCall ?_; (first | (refine kWFn 114 ?_; (refine s_callF (fun u H => OImg u s.buf H) rfl (fun w hw => c_copyImage s.buf _ w (riA hw) hl) rfl (fun u H hu => ?_); obtain ⟨d', rfl, hu⟩ := hu; have f1 := hu.form; obtain ⟨_, _, rfl⟩ := f1)) | apply s_step)) | (refine kStore ?_; (first | (refine s_storeS _ rfl rfl gpA rfl (eSurf_ones (OInts.one (by assumption))) (by rfl) ?_) | refine s_store1 _ rfl rfl gpA rfl (by rfl) ?_ | refine s_storeS _ rfl rfl gpA rfl rfl (by rfl) ?_ | refine s_storeS _ rfl rfl gpA rfl (ones_img oiA) (by rfl) ?_)) | refine s_boxS rfl rfl (fun b hb => ?_) | refine s_allocS rfl (fun b hb => ?_) | refine s_box1 rfl rfl rfl (fun b hb => ?_) | refine s_alloc1 rfl rfl (fun b hb => ?_) | refine s_buildSlice0 rfl (fun b hb => ?_) | refine s_buildSlice rfl rfl rfl rfl rfl (fun b hb => ?_) | apply s_step)) | (refine kG ?_; (first | refine s_gyes rfl rfl rfl ?_ | refine s_gno rfl rfl rfl rfl rfl ?_ | ((first | refine s_split_d rfl rfl (fun h => ?_) (fun h => ?_) | refine s_split_n rfl rfl (fun h => ?_) (fun h => ?_)) <;> (try (first | contradiction | (exfalso; omega)))) | refine s_split_nb rfl rfl (fun h => ?_) (fun h => ?_) | refine s_split rfl rfl (fun h => ?_) (fun h => ?_))) | refine l_then ?_ | (refine kC ?_; (first | refine c_seq ?_ | refine c_regionN rfl ?_ | refine c_ret ?_ | (refine kCond ?_; (first | refine c_cond_t rfl ?_ | refine c_cond_f rfl ?_ | ((first | refine c_cond_d rfl (fun h => ?_) (fun h => ?_) | refine c_cond_n rfl (fun h => ?_) (fun h => ?_)) <;> (try (first | contradiction | (exfalso; omega)))) | refine c_cond_nb rfl (fun h => ?_) (fun h => ?_) | refine c_cond rfl (fun h => ?_) (fun h => ?_))) | refine c_block ?_ | refine c_skip ?_ | refine c_exit ?_ | refine c_regionQN rfl rfl (by decide +kernel) ?_)) | apply s_stepQ | (refine kQG ?_; (first | refine s_gyesQ rfl rfl rfl ?_ | refine s_gnoQ rfl rfl rfl rfl rfl ?_ | ((first | refine s_splitQ_d rfl rfl (fun h => ?_) (fun h => ?_) | refine s_splitQ_n rfl rfl (fun h => ?_) (fun h => ?_)) <;> (try (first | contradiction | (exfalso; omega)))) | refine s_splitQ_nb rfl rfl (fun h => ?_) (fun h => ?_) | refine s_splitQ rfl rfl (fun h => ?_) (fun h => ?_))) | refine lQ_then ?_ | refine lQ_ends ?_ | (refine kE ?_; (first | refine e_then_r ?_ | refine e_block_r ?_ | refine e_then_n ?_ | refine e_then_x ?_ | refine e_block_n ?_ | refine e_block_x ?_ | refine e_block_y rfl ?_)) | refine l_ends ?_)
  all_goals (refine kE ?_; refine s_leaveSF rfl rfl rfl fwA (fun w hw => ?_))
  all_goals exact ⟨_, _, rfl, ⟨_, rfl, by assumption⟩, hw.toFresh (H := H) gpA⟩
theorem c_l10CopySurface (s : DSurf) (d : Value) (W : World) (hd : RInts W d s.buf.data) (hl : s.buf.data.length ≤ 1000000000) : SYieldsF Try.prog 174 #[vSurf s d] (fun u H => OSurf u s H) W := by
  have hd' := hd.form
  obtain ⟨_, _, rfl⟩ := hd'
  (first | apply SYields.mk | apply SYieldsF.mk | skip); refine s_enter Try.func174 rfl Try.ntmps174 rfl ?_
  repeat' (first | exact rfl | (apply kO; (first | exact ov_pure rfl | (apply kOBin; (first | exact aBin)) | (apply kOCall; (first | (apply kCallB; (first | exact aBlt | exact aLenR)))) | (apply kOLoad; (first | exact aLdF | exact aLdR)) | exact ov_fieldAddr rfl | (apply kOIdx; (first | exact aIdx)) | exact aRest | exact aNew | exact (ov_field1 (ft := 37) rfl rfl rfl rfl))) | (refine kN ?_; (first | (refine kCall ?_; (first | (refine kWFn 155 ?_; (refine s_callF (fun u H => OImg u s.buf H) rfl (fun w hw => c_l05Copy s.buf _ w (riA hw) hl) rfl (fun u H hu => ?_); obtain ⟨d', rfl, hu⟩ := hu; have f1 := hu.form; obtain ⟨_, _, rfl⟩ := f1)) | apply s_step)) | (refine kStore ?_; (first | (refine s_storeS _ rfl rfl gpA rfl (eSurf_ones (OInts.one (by assumption))) (by rfl) ?_) | refine s_store1 _ rfl rfl gpA rfl (by rfl) ?_ | refine s_storeS _ rfl rfl gpA rfl rfl (by rfl) ?_ | refine s_storeS _ rfl rfl gpA rfl (ones_img oiA) (by rfl) ?_)) | refine s_boxS rfl rfl (fun b hb => ?_) | refine s_allocS rfl (fun b hb => ?_) | refine s_box1 rfl rfl rfl (fun b hb => ?_) | refine s_alloc1 rfl rfl (fun b hb => ?_) | refine s_buildSlice0 rfl (fun b hb => ?_) | refine s_buildSlice rfl rfl rfl rfl rfl (fun b hb => ?_) | apply s_step)) | (refine kG ?_; (first | refine s_gyes rfl rfl rfl ?_ | refine s_gno rfl rfl rfl rfl rfl ?_ | ((first | refine s_split_d rfl rfl (fun h => ?_) (fun h => ?_) | refine s_split_n rfl rfl (fun h => ?_) (fun h => ?_)) <;> (try (first | contradiction | (exfalso; omega)))) | refine s_split_nb rfl rfl (fun h => ?_) (fun h => ?_) | refine s_split rfl rfl (fun h => ?_) (fun h => ?_))) | refine l_then ?_ | (refine kC ?_; (first | refine c_seq ?_ | refine c_regionN rfl ?_ | refine c_ret ?_ | (refine kCond ?_; (first | refine c_cond_t rfl ?_ | refine c_cond_f rfl ?_ | ((first | refine c_cond_d rfl (fun h => ?_) (fun h => ?_) | refine c_cond_n rfl (fun h => ?_) (fun h => ?_)) <;> (try (first | contradiction | (exfalso; omega)))) | refine c_cond_nb rfl (fun h => ?_) (fun h => ?_) | refine c_cond rfl (fun h => ?_) (fun h => ?_))) | refine c_block ?_ | refine c_skip ?_ | refine c_exit ?_ | refine c_regionQN rfl rfl (by decide +kernel) ?_)) | apply s_stepQ | (refine kQG ?_; (first | refine s_gyesQ rfl rfl rfl ?_ | refine s_gnoQ rfl rfl rfl rfl rfl ?_ | ((first | refine s_splitQ_d rfl rfl (fun h => ?_) (fun h => ?_) | refine s_splitQ_n rfl rfl (fun h => ?_) (fun h => ?_)) <;> (try (first | contradiction | (exfalso; omega)))) | refine s_splitQ_nb rfl rfl (fun h => ?_) (fun h => ?_) | refine s_splitQ rfl rfl (fun h => ?_) (fun h => ?_))) | refine lQ_then ?_ | refine lQ_ends ?_ | (refine kE ?_; (first | refine e_then_r ?_ | refine e_block_r ?_ | refine e_then_n ?_ | refine e_then_x ?_ | refine e_block_n ?_ | refine e_block_x ?_ | refine e_block_y rfl ?_)) | refine l_ends ?_)
  all_goals (refine kE ?_; refine s_leaveSF rfl rfl rfl fwA (fun w hw => ?_))
  all_goals exact ⟨_, _, rfl, ⟨_, rfl, by assumption⟩, hw.toFresh (H := H) gpA⟩
theorem surfs_each {l : List DSurf} {m : Nat} (h : surfsLen l ≤ m) {i : Nat} (hi : i < l.length) : (l.getD i default).buf.data.length ≤ m := by
  have := le_sumTo (fun i => (l.getD i default).buf.data.length) hi; unfold surfsLen at h; omega
set_option maxHeartbeats 4000000 in
theorem c_copyScene (s : DScene) (v : Value) (W : World) (hv : RS eSurf W v s.ss) (hl : surfsLen s.ss ≤ 2000000) : SYieldsF Try.prog 119 #[vScene s v] (fun u H => OScene u s H) W := by
  obtain ⟨ds, hv⟩ := hv
  have hvf := hv.form
  obtain ⟨va, vc, rfl⟩ := hvf
  have hln : s.ss.length ≤ surfsLen s.ss := Nat.le_add_right _ _
  have htk : ∀ j, (s.ss.take j).length ≤ s.ss.length := fun j => by rw [List.length_take]; omega
  have hes := fun (i : Nat) (hi : i < s.ss.length) => surfs_each hl hi
  (first | apply SYields.mk | apply SYieldsF.mk | skip); refine s_enter Try.func119 rfl Try.ntmps119 rfl ?_
  repeat' (first | exact rfl | (apply kO; (first | exact ov_pure rfl | (apply kOBin; (first | exact aBin)) | (apply kOCall; (first | (apply kCallB; (first | exact aBlt | exact (ov_lenR (fun w hw => hv.row.keep (hw.cells rfl)) rfl) | exact aLenR)))) | (apply kOLoad; (first | exact (ov_ldRZ (fun w hw => hv.row.keep (hw.cells rfl)) rfl rfl (by omega) rfl) | exact aLdF | exact aLdR)) | exact ov_fieldAddr rfl | (apply kOIdx; (first | exact (ov_idxR (fun w hw => hv.row.keep (hw.cells rfl)) rfl rfl (by omega)) | exact aIdx)) | exact aRest | exact aNew | exact (ov_field1 (ft := 37) rfl rfl rfl rfl))) | (refine kN ?_; (first | (refine kCall ?_; (first | (refine kWFn 186 ?_; (refine s_callF (fun u H => OSurf u (s.ss.getD j.1 default) H) rfl (fun w hw => c_copySurface _ _ w (RInts.keep (hv.rd _ (by omega)) (hw.cells rfl)) (Nat.le_trans (hes j.1 (by omega)) (Nat.le_of_ble_eq_true rfl))) rfl (fun u H hu => ?_); obtain ⟨d', rfl, hu⟩ := hu; have f1 := hu.form; obtain ⟨_, _, rfl⟩ := f1)) | (refine kWApp ?_; (refine s_appendE _ _ _ (el := eSurf) (a := s.ss.getD j.1 default) rfl rfl (by assumption) gpA gpA (show eSurf.own _ _ _ from hu) gpA rfl rfl (eSurf_ones (OInts.one (by assumption))) (by rw [scells_eq]; rfl) (by decide) (by have := htk j.1; omega) (by decide) rfl (fun v' H' hv' => ?_); have f1 := hv'.form; obtain ⟨ua, uc, rfl⟩ := f1)) | apply s_step)) | (refine kStore ?_; (first | (refine s_storeS _ rfl rfl gpA rfl (eSurf_ones (RInts.one (hv.rd _ (by omega)))) (by rfl) ?_) | (refine s_storeS _ rfl rfl gpA rfl (ones_cons rfl (ones_cons rfl (ones_cons rfl (ones_cons (OElems.one (by assumption)) rfl)))) (by rfl) ?_) | refine s_store1 _ rfl rfl gpA rfl (by rfl) ?_ | refine s_storeS _ rfl rfl gpA rfl rfl (by rfl) ?_ | refine s_storeS _ rfl rfl gpA rfl (ones_img oiA) (by rfl) ?_)) | refine s_boxS rfl rfl (fun b hb => ?_) | refine s_allocS rfl (fun b hb => ?_) | refine s_box1 rfl rfl rfl (fun b hb => ?_) | refine s_alloc1 rfl rfl (fun b hb => ?_) | refine s_buildSlice0 rfl (fun b hb => ?_) | refine s_buildSlice rfl rfl rfl rfl rfl (fun b hb => ?_) | apply s_step)) | (refine kG ?_; (first | refine s_gyes rfl rfl rfl ?_ | refine s_gno rfl rfl rfl rfl rfl ?_ | ((first | refine s_split_d rfl rfl (fun h => ?_) (fun h => ?_) | refine s_split_n rfl rfl (fun h => ?_) (fun h => ?_)) <;> (try (first | contradiction | (exfalso; omega)))) | refine s_split_nb rfl rfl (fun h => ?_) (fun h => ?_) | refine s_split rfl rfl (fun h => ?_) (fun h => ?_))) | (refine kS ?_; (first | refine h_exec rfl ?_ | refine h_take_nil rfl rfl rfl ?_ | refine h_take_pick rfl rfl rfl ?_ | refine h_nil ?_ | refine h_alt ?_ ?_ | apply h_take)) | (refine kBack ?_; (first | refine h_back_last rfl ?_ | refine h_backN rfl subA ?_)) | refine l_then ?_ | (refine kC ?_; (first | (refine kReg 5 ?_; refine c_regionSubN (SPlan.take 0 (SPlan.take 1 (SPlan.take 2 (SPlan.run 3 (SPlan.run 4 (SPlan.run 5 (SPlan.take 6 (SPlan.run 7 SPlan.done)))))))) (some 7) [true, true, false, true, true] rfl rfl rfl (by decide +kernel) ?_) | (refine c_loopV (ι := Nat × Value × SPiece) (fun j => j.1 ≤ s.ss.length ∧ OElems eSurf 62 j.2.1 (s.ss.take j.1) j.2.2) (fun j => [(16, .int .i64 (j.1 : Int))]) (fun j => [[(_, srow [.int .i64 s.W, .int .i64 s.H, .int .i64 s.Back, j.2.1] 26)], j.2.2, _, _]) (fun j => s.ss.length - j.1) (0, _, []) ⟨by dsimp only; omega, by dsimp only; rw [List.take_zero]; exact OElems.nil⟩ rfl (fun _ => rfl) ⟨rfl, trivial⟩ (fun w hw => hw.nil1) (fun j hj => ?_); obtain ⟨hj1, hj2⟩ := hj; have f2 := hj2.form; obtain ⟨wa, wc, ej⟩ := f2) | refine c_seq ?_ | refine c_regionN rfl ?_ | refine c_ret ?_ | (refine kCond ?_; (first | refine c_cond_t rfl ?_ | refine c_cond_f rfl ?_ | ((first | refine c_cond_d rfl (fun h => ?_) (fun h => ?_) | refine c_cond_n rfl (fun h => ?_) (fun h => ?_)) <;> (try (first | contradiction | (exfalso; omega)))) | refine c_cond_nb rfl (fun h => ?_) (fun h => ?_) | refine c_cond rfl (fun h => ?_) (fun h => ?_))) | refine c_block ?_ | refine c_skip ?_ | refine c_exit ?_ | refine c_regionQN rfl rfl (by decide +kernel) ?_)) | apply s_stepQ | (refine kQG ?_; (first | refine s_gyesQ rfl rfl rfl ?_ | refine s_gnoQ rfl rfl rfl rfl rfl ?_ | ((first | refine s_splitQ_d rfl rfl (fun h => ?_) (fun h => ?_) | refine s_splitQ_n rfl rfl (fun h => ?_) (fun h => ?_)) <;> (try (first | contradiction | (exfalso; omega)))) | refine s_splitQ_nb rfl rfl (fun h => ?_) (fun h => ?_) | refine s_splitQ rfl rfl (fun h => ?_) (fun h => ?_))) | refine lQ_then ?_ | refine lQ_ends ?_ | (refine kE ?_; (first | refine e_then_r ?_ | refine e_block_r ?_ | refine e_then_n ?_ | refine e_then_x ?_ | refine e_block_n ?_ | refine e_block_x ?_ | refine e_block_y rfl ?_)) | refine l_ends ?_)
  · refine e_round (j.1 + 1, _, H') ⟨by dsimp only; omega, by dsimp only; rw [take_getD default (by omega)]; exact hv'⟩ ⟨slook_to rfl (vint_to (by push_cast; rfl)), (by repeat' first | exact trivial | refine ⟨rfl, ?_⟩)⟩ (fun w hw => hw.sub (selO_sub [false, false, false, true, true, true, true] _ _ rfl)) (by dsimp only; omega)
  · rw [List.take_of_length_le (by omega)] at hj2
    exact s_leaveSF rfl rfl rfl fwA (fun w hw => ⟨_, _, rfl, ⟨_, rfl, hj2⟩, hw.toFresh (H := j.2.2) gpA⟩)
set_option maxHeartbeats 4000000 in
theorem c_l10Copy (s : DScene) (v : Value) (W : World) (hv : RS eSurf W v s.ss) (hl : surfsLen s.ss ≤ 2000000) : SYieldsF Try.prog 93 #[vScene s v] (fun u H => OScene u s H) W := by
  obtain ⟨ds, hv⟩ := hv
  have hvf := hv.form
  obtain ⟨va, vc, rfl⟩ := hvf
  have hln : s.ss.length ≤ surfsLen s.ss := Nat.le_add_right _ _
  have htk : ∀ j, (s.ss.take j).length ≤ s.ss.length := fun j => by rw [List.length_take]; omega
  have hes := fun (i : Nat) (hi : i < s.ss.length) => surfs_each hl hi
  (first | apply SYields.mk | apply SYieldsF.mk | skip); refine s_enter Try.func93 rfl Try.ntmps93 rfl ?_
  repeat' (first | exact rfl | (apply kO; (first | exact ov_pure rfl | (apply kOBin; (first | exact aBin)) | (apply kOCall; (first | (apply kCallB; (first | exact aBlt | exact (ov_lenR (fun w hw => hv.row.keep (hw.cells rfl)) rfl) | exact aLenR)))) | (apply kOLoad; (first | exact (ov_ldRZ (fun w hw => hv.row.keep (hw.cells rfl)) rfl rfl (by omega) rfl) | exact aLdF | exact aLdR)) | exact ov_fieldAddr rfl | (apply kOIdx; (first | exact (ov_idxR (fun w hw => hv.row.keep (hw.cells rfl)) rfl rfl (by omega)) | exact aIdx)) | exact aRest | exact aNew | exact (ov_field1 (ft := 37) rfl rfl rfl rfl))) | (refine kN ?_; (first | (refine kCall ?_; (first | (refine kWFn 174 ?_; (refine s_callF (fun u H => OSurf u (s.ss.getD j.1 default) H) rfl (fun w hw => c_l10CopySurface _ _ w (RInts.keep (hv.rd _ (by omega)) (hw.cells rfl)) (Nat.le_trans (hes j.1 (by omega)) (Nat.le_of_ble_eq_true rfl))) rfl (fun u H hu => ?_); obtain ⟨d', rfl, hu⟩ := hu; have f1 := hu.form; obtain ⟨_, _, rfl⟩ := f1)) | (refine kWApp ?_; (refine s_appendE _ _ _ (el := eSurf) (a := s.ss.getD j.1 default) rfl rfl (by assumption) gpA gpA (show eSurf.own _ _ _ from hu) gpA rfl rfl (eSurf_ones (OInts.one (by assumption))) (by rw [scells_eq]; rfl) (by decide) (by have := htk j.1; omega) (by decide) rfl (fun v' H' hv' => ?_); have f1 := hv'.form; obtain ⟨ua, uc, rfl⟩ := f1)) | apply s_step)) | (refine kStore ?_; (first | (refine s_storeS _ rfl rfl gpA rfl (ones_cons rfl (ones_cons rfl (ones_cons rfl (ones_cons (OElems.one (by assumption)) rfl)))) (by rfl) ?_) | refine s_store1 _ rfl rfl gpA rfl (by rfl) ?_ | refine s_storeS _ rfl rfl gpA rfl rfl (by rfl) ?_ | refine s_storeS _ rfl rfl gpA rfl (ones_img oiA) (by rfl) ?_)) | refine s_boxS rfl rfl (fun b hb => ?_) | refine s_allocS rfl (fun b hb => ?_) | refine s_box1 rfl rfl rfl (fun b hb => ?_) | refine s_alloc1 rfl rfl (fun b hb => ?_) | refine s_buildSlice0 rfl (fun b hb => ?_) | refine s_buildSlice rfl rfl rfl rfl rfl (fun b hb => ?_) | apply s_step)) | (refine kG ?_; (first | refine s_gyes rfl rfl rfl ?_ | refine s_gno rfl rfl rfl rfl rfl ?_ | ((first | refine s_split_d rfl rfl (fun h => ?_) (fun h => ?_) | refine s_split_n rfl rfl (fun h => ?_) (fun h => ?_)) <;> (try (first | contradiction | (exfalso; omega)))) | refine s_split_nb rfl rfl (fun h => ?_) (fun h => ?_) | refine s_split rfl rfl (fun h => ?_) (fun h => ?_))) | (refine kS ?_; (first | refine h_exec rfl ?_ | refine h_take_nil rfl rfl rfl ?_ | refine h_take_pick rfl rfl rfl ?_ | refine h_nil ?_ | refine h_alt ?_ ?_ | apply h_take)) | (refine kBack ?_; (first | refine h_back_last rfl ?_ | refine h_backN rfl subA ?_)) | refine l_then ?_ | (refine kC ?_; (first | (refine kReg 5 ?_; refine c_regionSubN (SPlan.take 0 (SPlan.take 1 (SPlan.take 2 (SPlan.take 3 (SPlan.take 4 (SPlan.take 5 (SPlan.take 6 (SPlan.run 7 (SPlan.run 8 (SPlan.run 9 (SPlan.take 10 (SPlan.run 11 SPlan.done)))))))))))) (some 11) [true, false, true, true] rfl rfl rfl (by decide +kernel) ?_) | (refine c_loopV (ι := Nat × Value × SPiece) (fun j => j.1 ≤ s.ss.length ∧ OElems eSurf 62 j.2.1 (s.ss.take j.1) j.2.2) (fun j => [(4, .int .i64 (j.1 : Int))]) (fun j => [[(_, srow [.int .i64 s.W, .int .i64 s.H, .int .i64 s.Back, j.2.1] 26)], j.2.2, _, _]) (fun j => s.ss.length - j.1) (0, _, []) ⟨by dsimp only; omega, by dsimp only; rw [List.take_zero]; exact OElems.nil⟩ rfl (fun _ => rfl) ⟨rfl, trivial⟩ (fun w hw => hw.nil1) (fun j hj => ?_); obtain ⟨hj1, hj2⟩ := hj; have f2 := hj2.form; obtain ⟨wa, wc, ej⟩ := f2) | refine c_seq ?_ | refine c_regionN rfl ?_ | refine c_ret ?_ | (refine kCond ?_; (first | refine c_cond_t rfl ?_ | refine c_cond_f rfl ?_ | ((first | refine c_cond_d rfl (fun h => ?_) (fun h => ?_) | refine c_cond_n rfl (fun h => ?_) (fun h => ?_)) <;> (try (first | contradiction | (exfalso; omega)))) | refine c_cond_nb rfl (fun h => ?_) (fun h => ?_) | refine c_cond rfl (fun h => ?_) (fun h => ?_))) | refine c_block ?_ | refine c_skip ?_ | refine c_exit ?_ | refine c_regionQN rfl rfl (by decide +kernel) ?_)) | apply s_stepQ | (refine kQG ?_; (first | refine s_gyesQ rfl rfl rfl ?_ | refine s_gnoQ rfl rfl rfl rfl rfl ?_ | ((first | refine s_splitQ_d rfl rfl (fun h => ?_) (fun h => ?_) | refine s_splitQ_n rfl rfl (fun h => ?_) (fun h => ?_)) <;> (try (first | contradiction | (exfalso; omega)))) | refine s_splitQ_nb rfl rfl (fun h => ?_) (fun h => ?_) | refine s_splitQ rfl rfl (fun h => ?_) (fun h => ?_))) | refine lQ_then ?_ | refine lQ_ends ?_ | (refine kE ?_; (first | refine e_then_r ?_ | refine e_block_r ?_ | refine e_then_n ?_ | refine e_then_x ?_ | refine e_block_n ?_ | refine e_block_x ?_ | refine e_block_y rfl ?_)) | refine l_ends ?_)
  · refine e_round (j.1 + 1, _, H') ⟨by dsimp only; omega, by dsimp only; rw [take_getD default (by omega)]; exact hv'⟩ ⟨slook_to rfl (vint_to (by push_cast; rfl)), (by repeat' first | exact trivial | refine ⟨rfl, ?_⟩)⟩ (fun w hw => hw.sub (selO_sub [false, false, true, true, true, true] _ _ rfl)) (by dsimp only; omega)
  · rw [List.take_of_length_le (by omega)] at hj2
    exact s_leaveSF rfl rfl rfl fwA (fun w hw => ⟨_, _, rfl, ⟨_, rfl, hj2⟩, hw.toFresh (H := j.2.2) gpA⟩)
end Go.Proofs.Ytfmjeakcfmmkfaa
/-
  The plain functions, continued: one element left out. No program in sight.
-/
set_option linter.unusedVariables false
namespace Sx
/-- the first i elements but number k -/
def eraseTo {α : Type} (l : List α) (k i : Nat) : List α := (l.take i).eraseIdx k
theorem eraseTo_zero {α : Type} (l : List α) (k : Nat) : eraseTo l k 0 = [] := by simp [eraseTo]
theorem eraseTo_all {α : Type} (l : List α) (k : Nat) {i : Nat} (h : l.length ≤ i) : eraseTo l k i = l.eraseIdx k := by unfold eraseTo; rw [List.take_of_length_le h]
theorem eraseTo_succ {α : Type} {l : List α} {k i : Nat} (d : α) (h : i < l.length) : eraseTo l k (i + 1) = eraseTo l k i ++ (if i = k then [] else [l.getD i d]) := by
  unfold eraseTo
  have e : l.take (i + 1) = l.take i ++ [l.getD i d] := by
    rw [List.take_add_one, List.getElem?_eq_getElem h, List.getD_eq_getElem?_getD, List.getElem?_eq_getElem h]; rfl
  have hl : (l.take i).length = i := by rw [List.length_take]; omega
  rw [e]
  by_cases h1 : k < i
  · rw [List.eraseIdx_append_of_lt_length (by omega), if_neg (by omega)]
  · rw [List.eraseIdx_append_of_length_le (by omega), hl]
    have e2 : (l.take i).eraseIdx k = l.take i := List.eraseIdx_of_length_le (by omega)
    by_cases h2 : i = k
    · subst h2; rw [if_pos rfl, Nat.sub_self, e2]; rfl
    · rw [if_neg h2, e2, List.eraseIdx_of_length_le (by simp; omega)]
theorem eraseTo_length {α : Type} (l : List α) (k i : Nat) : (eraseTo l k i).length ≤ i := by
  unfold eraseTo
  have := List.length_eraseIdx_le (l.take i) k
  rw [List.length_take] at this; omega
theorem eraseTo_sub {α : Type} {l : List α} {k i : Nat} {t : α} (h : t ∈ eraseTo l k i) : t ∈ l := List.mem_of_mem_take (List.mem_of_mem_eraseIdx h)
theorem map_eraseIdx' {α β : Type} (f : α → β) : ∀ (l : List α) (k : Nat), (l.eraseIdx k).map f = (l.map f).eraseIdx k
  | [], k => by simp
  | x :: l, 0 => rfl
  | x :: l, k + 1 => by simp only [List.eraseIdx_cons_succ, List.map_cons]; rw [map_eraseIdx' f l k]
/-- what an edit needs -/
theorem edited_add {s : DScene} {e : DEdit} (h : e.Kind = 0) : edited s e = { s with ss := s.ss ++ [added e] } := by unfold edited; rw [if_pos h]
theorem edited_back {s : DScene} {e : DEdit} (h : e.Kind = 10) : edited s e = { s with Back := e.A } := by unfold edited; rw [if_neg (by omega), if_pos h]
theorem edited_k {s : DScene} {e : DEdit} (h : e.Kind ≠ 0 ∧ e.Kind ≠ 10) : edited s e = { s with ss := editK s.ss e (surfaceIndex s.ss e.Id).toNat } := by unfold edited; rw [if_neg h.1, if_neg h.2]
theorem editK_remove {l : List DSurf} {e : DEdit} {k : Nat} (h : e.Kind = 1) : editK l e k = l.eraseIdx k := by unfold editK; rw [if_pos h]
theorem editK_raise {l : List DSurf} {e : DEdit} {k : Nat} (h : e.Kind = 3) : editK l e k = l.eraseIdx k ++ [l.getD k default] := by unfold editK; rw [if_neg (by omega), if_pos h]
theorem editK_lower {l : List DSurf} {e : DEdit} {k : Nat} (h : e.Kind = 4) : editK l e k = l.getD k default :: l.eraseIdx k := by unfold editK; rw [if_neg (by omega), if_neg (by omega), if_pos h]
theorem editK_set {l : List DSurf} {e : DEdit} {k : Nat} (h : e.Kind ≠ 1 ∧ e.Kind ≠ 3 ∧ e.Kind ≠ 4) : editK l e k = l.set k (touched (l.getD k default) e) := by unfold editK; rw [if_neg h.1, if_neg h.2.1, if_neg h.2.2]
theorem doEdit_yes {s : DScene} {e : DEdit} (h : doEditOk s e) : doEdit s e = edited s e := by unfold doEdit; rw [if_pos h]
theorem doEdit_no {s : DScene} {e : DEdit} (h : ¬ doEditOk s e) : doEdit s e = s := by unfold doEdit; rw [if_neg h]
end Sx
/-
  Contracts: what the laws draw from their bytes. Only what is sure of the result is said.
-/
set_option linter.unusedVariables false
namespace Go.Proofs.Ytfmjeakcfmmkfaa
open Go Sx
attribute [local irreducible] Exit.then Exit.inBlock bodyPost
/-- the cursor: its bytes, its place, its mixed number -/
abbrev curP (bs : Value) (ci h : Int) (cb : Nat) : SPiece := [(cb, srow [bs, .int .i64 ci, .int .i64 h] 174)]
/-- the bytes are read beside the cursor -/
def NAp (cb : Nat) (bs : Value) (l : List Int) : Prop := 0 < l.length → (baseOf bs).1 ≠ cb
structure CDraw (cb : Nat) (bs : Value) (l : List Int) (w : World) : Prop where
  rd : RBytes w bs l
  ap : NAp cb bs l
/-- a draw: the cursor goes on, the value and the new memory are as Φ says -/
structure SDraw (P : Program) (f : FuncId) (args : Array Value) (cb : Nat) (bs : Value) (l : List Int) (Φ : Value → SPiece → Prop) (w : World) : Prop where
  run : ∀ (ci ch : Int), (0 ≤ ci ∧ ci ≤ l.length) → Holds w (curP bs ci ch cb) → (curP bs ci ch cb).keys.Nodup → SYieldsG P f args (curP bs ci ch cb) (fun u H' F => (∃ ci' ch' : Int, H' = curP bs ci' ch' cb ∧ 0 ≤ ci' ∧ ci' ≤ l.length) ∧ Φ u F) w
section
variable {P : Program} {n : Nat} {lo : SMut} {s : World} {ops : Array Oper} {Q : Exit → Act → World → Prop} {E : SEnv} {L : SHeap} {d : Nat} {ty : TypeId} {pos : String} {after : Array Edge} {rest : List Oper}
end
def isInt (lo hi : Int) (v : Value) : Prop := ∃ x, v = .int .i64 x ∧ lo ≤ x ∧ x ≤ hi
def isBool (v : Value) : Prop := ∃ x, v = .bool x
def xorI (i j : Int) : Int := IntKind.i64.wrap ((BitVec.ofInt 64 i ^^^ BitVec.ofInt 64 j).toNat : Int)
end Go.Proofs.Ytfmjeakcfmmkfaa
/-
  Contracts: pixels, images, modes that are drawn.
-/
set_option linter.unusedVariables false
namespace Go.Proofs.Ytfmjeakcfmmkfaa
open Go Sx
attribute [local irreducible] Exit.then Exit.inBlock bodyPost
/-- some valid image of at most m by m pixels -/
def someImg (m : Int) (u : Value) (H : SPiece) : Prop := ∃ i : DImg, i.ok ∧ i.W ≤ m ∧ i.H ≤ m ∧ OImg u i H
end Go.Proofs.Ytfmjeakcfmmkfaa
/-
  A result that is an image and a number.
-/
set_option linter.unusedVariables false
namespace Go.Proofs.Ytfmjeakcfmmkfaa
open Go Sx
/-- an image and a number -/
def OImgN (u : Value) (i : DImg) (n : Int) (H : SPiece) : Prop := ∃ d, u = .tuple #[vImg i d, .int .i64 n] ∧ OInts 3 d i.data H
theorem _root_.Sx.SRes.cellG {P : Program} {E : SEnv} {L : SHeap} {t : Tmp} {T : TypeId} {b : Nat} {l : List Value} {td : TypeDesc} {z : Value} {k by_ : Nat} {r : List ResultVar} {vs : List Value} [hu : SUnd P T td] [hi : SInf P T z k by_]
    (ht : slook E t = some (.pointer (some ⟨b, 0, none⟩))) (hd : sisRow td = true) (hf : FindW L b k l) (h : SRes P E L r vs) : SRes P E L (.cell t T :: r) (.agg l.toArray :: vs) := by
  obtain ⟨⟨U, h1⟩, h2⟩ := hf
  exact .cell ht hd h1 h2 h
/-! ### plain: the loads -/
end Go.Proofs.Ytfmjeakcfmmkfaa
/-
  Rules for an edit of a scene by the reference: rows of structs that share what they hold.
-/
set_option linter.unusedVariables false
namespace Go.Proofs.Ytfmjeakcfmmkfaa
open Go Sx
attribute [local irreducible] Exit.then Exit.inBlock bodyPost tcells OInts OElems
/-- a scene and an answer -/
def OSceneB (u : Value) (s : DScene) (q : Bool) (H : SPiece) : Prop := ∃ v, u = .tuple #[vScene s v, .bool q] ∧ OElems eSurf 62 v s.ss H
theorem ovec_split {k : Nat} {T : TypeId} {v : Value} {n : Nat} {xs : List Value} {H : SPiece} (h : OVec k T v n xs H) :
    (v = .slice none 0 0 ∧ n = 0 ∧ xs = [] ∧ H = []) ∨ ∃ b cap r, v = .slice (some ⟨b, 0, none⟩) n cap ∧ H = [(b, srow (xs ++ r) T)] ∧ xs.length = n * k ∧ (xs ++ r).length = cap * k ∧ n ≤ cap ∧ cap ≤ maxLen := by
  cases h with
  | nil => exact .inl ⟨rfl, rfl, rfl, rfl⟩
  | blk b n cap xs r h1 h2 h3 h4 => exact .inr ⟨b, cap, r, rfl, rfl, h1, h2, h3, h4⟩
theorem tri_rd {T : List (ETri DSurf)} {G : SPiece} (h : ∀ t ∈ T, eSurf.own t.2.1 t.1 t.2.2) {w : World} (hw : Holds w (tpiece T ++ G)) : ∀ t ∈ T, RInts w t.2.1 t.1.buf.data := fun t ht =>
  OInts.reads (h t ht) (fun b o hm => hw b o (List.mem_append_left _ (List.mem_flatMap.2 ⟨t, ht, hm⟩)))
theorem RS_tri {T : List (ETri DSurf)} {U : TypeId} {v : Value} {H : SPiece} {w : World} (h1 : OVec eSurf.k U v T.length (tcells eSurf T) H) (hw : Holds w H) (h : ∀ t ∈ T, RInts w t.2.1 t.1.buf.data) : RS eSurf w v (T.map (·.1)) := by
  have e : ∀ i, (T.map (·.1)).getD i eSurf.dflt = (T.getD i dT).1 := fun i => (getT_fst (T := T) (j := i)).symm
  refine ⟨fun i => (T.getD i dT).2.1, ⟨?_, fun i hi => ?_⟩⟩
  · have hr := trow h1 hw
    rw [List.length_map]
    have e2 : (fun i => eSurf.cells ((T.map (·.1)).getD i eSurf.dflt) (T.getD i dT).2.1) = (fun i => eSurf.cells (T.getD i dT).1 (T.getD i dT).2.1) := funext fun i => by rw [e i]
    rw [e2]; exact hr
  · rw [List.length_map] at hi
    rw [e i]
    exact h _ (getT_mem hi)
theorem scene_len {s : DScene} (h : s.ok) : surfsLen s.ss ≤ 2000000 := by
  have h6 := h.2.2.2.1
  unfold surfsLen
  have : ∀ n, n ≤ s.ss.length → sumTo (fun i => (s.ss.getD i default).buf.data.length) n ≤ n * 256 := by
    intro n
    induction n with
    | zero => intro _; exact Nat.le_refl _
    | succ n ih =>
      intro hn
      have h1 := ih (by omega)
      have h2 := (getD_ok h (show n < s.ss.length by omega)).2.2.2.2.2.2.len
      show sumTo _ n + (s.ss.getD n default).buf.data.length ≤ _
      omega
  have := this _ (Nat.le_refl _)
  omega
section
variable {P : Program} {n : Nat} {lo : SMut} {s : World} {ops : Array Oper} {Q : Exit → Act → World → Prop} {E : SEnv} {L : SHeap} {d : Nat} {ty : TypeId} {pos : String} {after : Array Edge} {rest : List Oper}
/-- append of a literal of one struct, whose parts stay where they are -/
theorem s_appendT (i i2 : Nat) {t e : TypeId} {x y : Operand} {v z : Value} {by_ b2 : Nat} {T : List (ETri DSurf)} (t0 : ETri DSurf) {H : SPiece} {X U : TypeId} [hu : SUnd P t (.slice e)] [hinf : SInf P e z eSurf.k by_]
    (hx : sval E x = some v) (hy : sval E y = some (.slice (some ⟨b2, 0, none⟩) 1 1)) (hv : OVec eSurf.k e v T.length (tcells eSurf T) H) (hL : getL L i = some H) (hL2 : getL L i2 = some [(b2, srow (eSurf.cells t0.1 t0.2.1) U)])
    (h1 : oneCells (eSurf.cells t0.1 t0.2.1) = true) (hz : z.cells.size = eSurf.k) (hb : T.length + 1 ≤ 100000000) (hby : by_ ≤ 1024) (hd : Nat.blt d n = true)
    (k : ∀ v' H', OVec eSurf.k e v' (T ++ [t0]).length (tcells eSurf (T ++ [t0])) H' → WPL P n lo s ops Q rest ((d, v') :: E) (setL L i H')) :
    WPL P n lo s ops Q (⟨some d, .call { callee := .builtin .append, args := #[x, y], argTypes := #[t, t] }, X, pos, after, none⟩ :: rest) E L := by
  have hmul : (T.length + 1) * by_ ≤ 100000000 * 1024 := Nat.mul_le_mul hb hby
  refine s_append i (ys := eSurf.cells t0.1 t0.2.1) (m := 1) hx hy hv hL hz (by decide) (by rw [eSurf.klen, Nat.one_mul]) h1 (fun w hw => ⟨_, _, rfl, fun j q hj => ?_⟩) (by omega) (by omega) hd (fun v' H' h => ?_)
  · rw [Addr.add_lit, Nat.zero_add]
    exact hw.captured hL2 j q hj
  · refine k v' H' ?_
    rw [tcells_append, tcells_one, List.length_append]; exact h
/-- nothing is appended -/
theorem s_appendNil {t e : TypeId} {x y : Operand} {ad : Addr} {m c : Nat} {z : Value} {kk by_ : Nat} {X : TypeId} [hu : SUnd P t (.slice e)] [hinf : SInf P e z kk by_]
    (hx : sval E x = some (.slice (some ad) m c)) (hy : sval E y = some (.slice none 0 0)) (hle : m ≤ c) (hd : Nat.blt d n = true) (k : WPL P n lo s ops Q rest ((d, .slice (some ad) m c) :: E) L) :
    WPL P n lo s ops Q (⟨some d, .call { callee := .builtin .append, args := #[x, y], argTypes := #[t, t] }, X, pos, after, none⟩ :: rest) E L := by
  refine s_eff (E' := fun _ _ => []) (fun w u w' => u = .slice (some ad) m c ∧ w' = w) (fun aa w ha hw => ⟨_, _, ?_, rfl, rfl⟩) hd ?_
  · obtain ⟨ii, i1, i2, i3, i4⟩ := hinf.out
    simp [execOp, resolve, invoke, builtin, ha.sval hx, ha.sval hy, Builtin.append_, srun_und, Builtin.lenOf, Builtin.firstCells, sizeOf, typeInfo, i1, hle, storeCells]
  · rintro w u w' hw ⟨rfl, rfl⟩ aa ha
    exact (by unfold WPL at k; exact k aa _ ha hw)
/-- append of own rows to a literal of one struct -/
theorem s_appendY (i i2 : Nat) {t e : TypeId} {x y : Operand} {v z : Value} {by_ b2 : Nat} {R : List (ETri DSurf)} (t0 : ETri DSurf) {H : SPiece} {X : TypeId} [hu : SUnd P t (.slice e)] [hinf : SInf P e z eSurf.k by_]
    (hx : sval E x = some (.slice (some ⟨b2, 0, none⟩) 1 1)) (hy : sval E y = some v) (hv : OVec eSurf.k e v R.length (tcells eSurf R) H) (hL2 : getL L i2 = some H) (hL : getL L i = some [(b2, srow (eSurf.cells t0.1 t0.2.1) e)])
    (h1 : oneCells (tcells eSurf R) = true) (hz : z.cells.size = eSurf.k) (hb : R.length + 1 ≤ 100000000) (hby : by_ ≤ 1024) (hd : Nat.blt d n = true)
    (k : ∀ v' H', OVec eSurf.k e v' (t0 :: R).length (tcells eSurf (t0 :: R)) H' → WPL P n lo s ops Q rest ((d, v') :: E) (setL L i H')) :
    WPL P n lo s ops Q (⟨some d, .call { callee := .builtin .append, args := #[x, y], argTypes := #[t, t] }, X, pos, after, none⟩ :: rest) E L := by
  have hmul : (1 + R.length) * by_ ≤ 100000000 * 1024 := Nat.mul_le_mul (by omega) hby
  have o : OVec eSurf.k e (.slice (some ⟨b2, 0, none⟩) 1 1) 1 (eSurf.cells t0.1 t0.2.1) [(b2, srow (eSurf.cells t0.1 t0.2.1) e)] := by
    have := OVec.blk (k := eSurf.k) (T := e) b2 1 1 (eSurf.cells t0.1 t0.2.1) [] (by rw [eSurf.klen, Nat.one_mul]) (by rw [List.append_nil, eSurf.klen, Nat.one_mul]) (Nat.le_refl _) (by decide)
    rwa [List.append_nil] at this
  rcases ovec_split hv with ⟨rfl, h2, h3, rfl⟩ | ⟨b, cap, r, rfl, rfl, h2, h3, h4, h5⟩
  · have hR : R = [] := List.eq_nil_of_length_eq_zero h2
    subst hR
    refine s_appendNil hx hy (Nat.le_refl _) hd ?_
    have := k (.slice (some ⟨b2, 0, none⟩) 1 1) [(b2, srow (eSurf.cells t0.1 t0.2.1) e)] (by rw [tcells_cons, show tcells eSurf ([] : List (ETri DSurf)) = [] from h3, List.append_nil]; exact o)
    obtain ⟨A, B, h6, h7⟩ := getL_split hL
    rw [h7, ← h6] at this
    exact this
  · refine s_append i (ys := tcells eSurf R) (m := R.length) hx hy o hL hz (by decide) (tcells_length _ _) h1 (fun w hw => ⟨_, _, rfl, fun j q hj => ?_⟩) (by omega) (by omega) hd (fun v' H' h => ?_)
    · rw [Addr.add_lit, Nat.zero_add]
      exact hw.captured hL2 j q (by rw [List.getElem?_append_left (List.getElem?_eq_some_iff.1 hj).1]; exact hj)
    · refine k v' H' ?_
      rw [tcells_cons, List.length_cons, Nat.add_comm]; exact h
end
end Go.Proofs.Ytfmjeakcfmmkfaa
/-
  Rules: own slices of structs that are cut, shifted, cleared in place. Nothing of any one program.
-/
set_option linter.unusedVariables false
namespace Go.Proofs.Ytfmjeakcfmmkfaa
open Go Sx
attribute [local irreducible] Exit.then Exit.inBlock bodyPost
theorem run_copy_rows {P : Program} (w : World) (dT sT ty elem : TypeId) (kk : Nat) (g o dLen dCap : Nat) (a : Addr) (sLen sCap : Nat) (cur : Array Value) (t : TypeId) (cs : List Value)
    (hu : P.underlying dT = some (.slice elem)) (hs : (P.info? elem).map (·.size) = some kk)
    (hg : w.heap[g]? = some (.cells cur t (0, 0))) (hn : cs.length = Nat.min sLen dLen * kk)
    (hsrc : ∀ j v, cs[j]? = some v → w.cell? (a.add j) = some v) (hfit : o + cs.length ≤ cur.size) (h1 : ∀ v ∈ cs, v.oneCell' = true) :
    (Builtin.copy_ #[dT, sT] ty #[.slice (some ⟨g, o, none⟩) dLen dCap, .slice (some a) sLen sCap]).run P w =
      .ok (goInt (Nat.min sLen dLen)) (w.setRow g (cur.toList.take o ++ cs ++ cur.toList.drop (o + cs.length)).toArray) := by
  have hl := run_loadCells_list (P := P) w a cs hsrc
  have hst := run_storeCells_at P g o t cs 0 cur w hg (by simpa using hfit) h1
  cases hq : P.info? elem with
  | none => simp [hq] at hs
  | some i =>
    have hi : i.size = kk := by simpa [hq] using hs
    simp [Builtin.copy_, run_underlying hu, Builtin.lenOf, Builtin.firstCells, sizeOf, typeInfo, hq, hi, ← hn, hl, hst]
section
variable {P : Program} {n : Nat} {lo : SMut} {s : World} {E : SEnv} {L : SHeap} {d : Option Tmp} {ty : TypeId} {pos : String} {after : Array Edge} {g : Option (Nat × Bool)} {x y z' u' : Operand} {i j q : Int}
/-- where s[lo:] begins -/
def offL (c kk lo : Nat) : Nat := if c = lo then 0 else lo * kk
theorem offL_in {c kk lo : Nat} (h : lo < c) : offL c kk lo = lo * kk := by unfold offL; rw [if_neg (by omega)]
theorem ov_sliceLK {t e : TypeId} {b o m c : Nat} {z : Value} {kk by_ : Nat} {ik : IntKind} [hu : SUnd P t (.slice e)] [hi : SInf P e z kk by_] (hx : sval E x = some (.slice (some ⟨b, o, none⟩) m c)) (hy : sval E y = some (.int ik j)) (hj : 0 ≤ j ∧ j ≤ m) :
    SOpV P n lo s E L ⟨d, .slice t x (some y) none none, ty, pos, after, g⟩ (.slice (some ⟨b, o + offL c kk j.toNat, none⟩) (m - j.toNat) (c - j.toNat)) :=
  SOpV.of_run fun aa ha w hw => by
    by_cases hc : c = j.toNat
    · simp [execOp, Instr.sliceAt, Instr.slice, Instr.sliceBounds, Instr.sliceBound, asIntOf, ha.sval hx, ha.sval hy, srun_und, srun_sizeOf, hj.1, hj.2, hc, offL]
    · simp [execOp, Instr.sliceAt, Instr.slice, Instr.sliceBounds, Instr.sliceBound, asIntOf, ha.sval hx, ha.sval hy, srun_und, srun_sizeOf, hj.1, hj.2, hc, offL, Addr.add_lit]
theorem ov_sliceLH {t e : TypeId} {b o m c : Nat} {z : Value} {kk by_ : Nat} {ik jk : IntKind} [hu : SUnd P t (.slice e)] [hi : SInf P e z kk by_] (hx : sval E x = some (.slice (some ⟨b, o, none⟩) m c)) (hy : sval E y = some (.int ik i)) (hz : sval E z' = some (.int jk j)) (hj : 0 ≤ i ∧ i ≤ j ∧ j ≤ c) :
    SOpV P n lo s E L ⟨d, .slice t x (some y) (some z') none, ty, pos, after, g⟩ (.slice (some ⟨b, o + offL c kk i.toNat, none⟩) (j.toNat - i.toNat) (c - i.toNat)) :=
  SOpV.of_run fun aa ha w hw => by
    obtain ⟨I, rfl⟩ := Int.eq_ofNat_of_zero_le hj.1
    obtain ⟨J, rfl⟩ := Int.eq_ofNat_of_zero_le (show 0 ≤ j by omega)
    have h0 : I ≤ J := by omega
    have h1 : J ≤ c := by omega
    by_cases hc : c = I
    · simp [execOp, Instr.sliceAt, Instr.slice, Instr.sliceBounds, Instr.sliceBound, asIntOf, ha.sval hx, ha.sval hy, ha.sval hz, srun_und, srun_sizeOf, h0, h1, hc, offL, show J = I by omega]
    · simp [execOp, Instr.sliceAt, Instr.slice, Instr.sliceBounds, Instr.sliceBound, asIntOf, ha.sval hx, ha.sval hy, ha.sval hz, srun_und, srun_sizeOf, h0, h1, hc, offL, Addr.add_lit]
theorem ov_slice3 {t e : TypeId} {b o m c : Nat} {z : Value} {kk by_ : Nat} {ik jk qk : IntKind} [hu : SUnd P t (.slice e)] [hi : SInf P e z kk by_] (hx : sval E x = some (.slice (some ⟨b, o, none⟩) m c)) (hy : sval E y = some (.int ik i)) (hz : sval E z' = some (.int jk j)) (hq : sval E u' = some (.int qk q)) (hj : 0 ≤ i ∧ i ≤ j ∧ j ≤ q ∧ q ≤ c) :
    SOpV P n lo s E L ⟨d, .slice t x (some y) (some z') (some u'), ty, pos, after, g⟩ (.slice (some ⟨b, o + offL q.toNat kk i.toNat, none⟩) (j.toNat - i.toNat) (q.toNat - i.toNat)) :=
  SOpV.of_run fun aa ha w hw => by
    obtain ⟨I, rfl⟩ := Int.eq_ofNat_of_zero_le hj.1
    obtain ⟨J, rfl⟩ := Int.eq_ofNat_of_zero_le (show 0 ≤ j by omega)
    obtain ⟨K, rfl⟩ := Int.eq_ofNat_of_zero_le (show 0 ≤ q by omega)
    have h0 : I ≤ J := by omega
    have h1 : J ≤ K := by omega
    have h2 : K ≤ c := by omega
    by_cases hc : K = I
    · simp [execOp, Instr.sliceAt, Instr.slice, Instr.sliceBounds, Instr.sliceBound, asIntOf, ha.sval hx, ha.sval hy, ha.sval hz, ha.sval hq, srun_und, srun_sizeOf, h2, hc, offL, show J = I by omega, show I ≤ c by omega]
    · simp [execOp, Instr.sliceAt, Instr.slice, Instr.sliceBounds, Instr.sliceBound, asIntOf, ha.sval hx, ha.sval hy, ha.sval hz, ha.sval hq, srun_und, srun_sizeOf, h0, h1, h2, hc, offL, Addr.add_lit]
theorem ov_cap {t e : TypeId} {a : Option Addr} {m c : Nat} [hu : SUnd P t (.slice e)] (hx : sval E x = some (.slice a m c)) : SOpV P n lo s E L ⟨d, .call { callee := .builtin .cap, args := #[x], argTypes := #[t] }, ty, pos, after, g⟩ (.int .i64 c) :=
  SOpV.of_run fun aa ha w hw => by
    simp [execOp, resolve, invoke, builtin, Builtin.cap_, ha.sval hx, srun_und, goInt]
end
section
variable {P : Program} {n : Nat} {lo : SMut} {s : World} {ops : Array Oper} {Q : Exit → Act → World → Prop} {E : SEnv} {L : SHeap} {d : Nat} {ty : TypeId} {pos : String} {after : Array Edge} {rest : List Oper}
/-- append where there is room: in place -/
theorem s_appendIn (i : Nat) {t e : TypeId} {x y : Operand} {b nn cap m c : Nat} {a : Addr} {z : Value} {kk by_ : Nat} {cur ys : List Value} {X : TypeId} [hu : SUnd P t (.slice e)] [hinf : SInf P e z kk by_]
    (hx : sval E x = some (.slice (some ⟨b, 0, none⟩) nn cap)) (hy : sval E y = some (.slice (some a) m c)) (hL : getL L i = some [(b, srow cur e)]) (hc : cur.length = cap * kk)
    (hm0 : ys.length = m * kk) (hones : oneCells ys = true) (hr : ∀ w, SSt lo s L w → ∀ j q, ys[j]? = some q → w.cell? (a.add j) = some q) (hroom : nn + m ≤ cap) (hd : Nat.blt d n = true)
    (k : WPL P n lo s ops Q rest ((d, .slice (some ⟨b, 0, none⟩) (nn + m) cap) :: E) (setL L i [(b, srow (cur.take (nn * kk) ++ ys ++ cur.drop (nn * kk + ys.length)) e)])) :
    WPL P n lo s ops Q (⟨some d, .call { callee := .builtin .append, args := #[x, y], argTypes := #[t, t] }, X, pos, after, none⟩ :: rest) E L := by
  refine s_eff (E' := fun _ _ => []) (fun w u w' => u = .slice (some ⟨b, 0, none⟩) (nn + m) cap ∧ w' = w.setRow b (cur.take (nn * kk) ++ ys ++ cur.drop (nn * kk + ys.length)).toArray) (fun aa w ha hw => ⟨_, _, ?_, rfl, rfl⟩) hd ?_
  · obtain ⟨ii, i1, i2, i3, i4⟩ := hinf.out
    have hblk := (hw.blocks b _ (getL_flat hL (List.mem_singleton.2 rfl))).2
    have hr1 := run_append_room (P := P) w t X e ii hu.h i1 b nn cap cur.toArray hblk a m c ys (by rw [i3]; exact hm0) (hr w hw) (oneCells_mem hones) hroom
      (by rw [i3, hm0]; simp only [List.size_toArray, hc, ← Nat.add_mul]; exact Nat.mul_le_mul_right _ hroom)
    rw [i3] at hr1
    simp only [execOp, resolve, invoke, builtin, Sem.run_bind, Sem.run_pure, Result.andThen_ok, List.map_toArray, List.map_cons, List.map_nil, ha.sval hx, ha.sval hy, hr1]
  · rintro w u w' hw ⟨rfl, rfl⟩ aa ha
    exact (by unfold WPL at k; exact k aa _ ha (hw.srow hL))
/-- clear of a part of an own block -/
theorem s_clear (i : Nat) {t e : TypeId} {x : Operand} {b o m c : Nat} {z : Value} {kk by_ : Nat} {cur : List Value} {T X : TypeId} [hu : SUnd P t (.slice e)] [hinf : SInf P e z kk by_]
    (hx : sval E x = some (.slice (some ⟨b, o, none⟩) m c)) (hL : getL L i = some [(b, srow cur T)]) (hz : oneCells z.cells.toList = true) (hzs : z.cells.size = kk) (hfit : o + m * kk ≤ cur.length)
    (k : ∀ zs : List Value, zs.length = m * kk → WPL P n lo s ops Q rest E (setL L i [(b, srow (cur.take o ++ zs ++ cur.drop (o + m * kk)) T)])) :
    WPL P n lo s ops Q (⟨none, .call { callee := .builtin .clear, args := #[x], argTypes := #[t] }, X, pos, after, none⟩ :: rest) E L := by
  unfold WPL
  intro aa w ha hw
  refine wpList_plain rfl fun K hK => ?_
  obtain ⟨ii, i1, i2, i3, i4⟩ := hinf.out
  have hblk := (hw.blocks b _ (getL_flat hL (List.mem_singleton.2 rfl))).2
  have hlen : (Builtin.zeroCells z.cells m).toList.length = m * kk := by rw [Array.length_toList, size_zeroCells, hzs]
  have h1 : ∀ u ∈ (Builtin.zeroCells z.cells m).toList, u.oneCell' = true := by
    intro u hu'
    have hz' := oneCells_mem hz
    rw [Array.mem_toList_iff] at hu'
    unfold Builtin.zeroCells at hu'
    rw [Array.mem_def] at hu'
    simp only [Array.toList_map, List.mem_map] at hu'
    obtain ⟨q, hq, rfl⟩ := hu'
    by_cases h0 : z.cells.size = 0
    · simp [h0]; rfl
    · have hlt : q % z.cells.size < z.cells.size := Nat.mod_lt _ (Nat.pos_of_ne_zero h0)
      rw [getElem!_pos z.cells _ hlt]
      exact hz' _ (by rw [Array.mem_toList_iff]; exact Array.getElem_mem hlt)
  have hst := run_storeCells_at P b o T (Builtin.zeroCells z.cells m).toList 0 cur.toArray w hblk (by rw [hlen]; simpa using hfit) h1
  simp only [Nat.add_zero, hlen] at hst
  have hk := k (Builtin.zeroCells z.cells m).toList hlen
  by_cases hm : m = 0
  · subst hm
    have e0 : (Builtin.zeroCells z.cells 0).toList = [] := List.eq_nil_of_length_eq_zero (by omega)
    have hr : (execOp aa.eval ⟨none, .call { callee := .builtin .clear, args := #[x], argTypes := #[t] }, X, pos, after, none⟩).run P w = .ok (.value (.tuple #[])) w := by
      simp [execOp, resolve, invoke, builtin, ha.sval hx, Builtin.clear_, srun_und]
    unfold Oper.wp
    rw [hr]
    rw [e0] at hk
    simp only [Nat.zero_mul, Nat.add_zero, List.append_nil, List.take_append_drop] at hk
    obtain ⟨A, B, h3, h4⟩ := getL_split hL
    rw [h4, ← h3] at hk
    exact hK _ _ (by unfold WPL at hk; exact hk _ _ ha hw)
  · have hr : (execOp aa.eval ⟨none, .call { callee := .builtin .clear, args := #[x], argTypes := #[t] }, X, pos, after, none⟩).run P w = .ok (.value (.tuple #[])) (w.setRow b (cur.take o ++ (Builtin.zeroCells z.cells m).toList ++ cur.drop (o + m * kk)).toArray) := by
      cases m with
      | zero => exact absurd rfl hm
      | succ m => simp [execOp, resolve, invoke, builtin, ha.sval hx, Builtin.clear_, srun_und, srun_zeroValue, hst]
    unfold Oper.wp
    rw [hr]
    exact hK _ _ (by unfold WPL at hk; exact hk _ _ ha (hw.srow hL))
/-- copy into an own block of structs -/
theorem s_copyK (i : Nat) {dT sT e X : TypeId} {x y : Operand} {b o m c m2 c2 : Nat} {a : Addr} {cur cs : List Value} {T : TypeId} {z : Value} {kk by_ : Nat} [hu : SUnd P dT (.slice e)] [hi : SInf P e z kk by_]
    (hx : sval E x = some (.slice (some ⟨b, o, none⟩) m c)) (hy : sval E y = some (.slice (some a) m2 c2)) (hL : getL L i = some [(b, srow cur T)]) (hn : cs.length = Nat.min m2 m * kk) (hfit : o + cs.length ≤ cur.length) (h1 : oneCells cs = true)
    (hsrc : ∀ w, SSt lo s L w → ∀ j v, cs[j]? = some v → w.cell? (a.add j) = some v) (hd : Nat.blt d n = true)
    (k : WPL P n lo s ops Q rest ((d, goInt (Nat.min m2 m)) :: E) (setL L i [(b, srow (cur.take o ++ cs ++ cur.drop (o + cs.length)) T)])) :
    WPL P n lo s ops Q (⟨some d, .call { callee := .builtin .copy, args := #[x, y], argTypes := #[dT, sT] }, X, pos, after, none⟩ :: rest) E L := by
  refine s_eff (E' := fun _ _ => []) (fun w u w' => u = goInt (Nat.min m2 m) ∧ w' = w.setRow b (cur.take o ++ cs ++ cur.drop (o + cs.length)).toArray) (fun aa w ha hw => ⟨_, _, ?_, rfl, rfl⟩) hd ?_
  · obtain ⟨ii, i1, i2, i3, i4⟩ := hi.out
    have hblk := (hw.blocks b _ (getL_flat hL (List.mem_singleton.2 rfl))).2
    have h := run_copy_rows (P := P) w dT sT X e kk b o m c a m2 c2 cur.toArray T cs hu.h (by rw [i1]; simp [i3]) hblk hn (hsrc w hw) (by simpa using hfit) (oneCells_mem h1)
    simp [execOp, resolve, invoke, builtin, ha.sval hx, ha.sval hy, h]
  · rintro w u w' hw ⟨rfl, rfl⟩ aa ha
    exact (by unfold WPL at k; exact k aa _ ha (hw.srow hL))
end
end Go.Proofs.Ytfmjeakcfmmkfaa
/-
  Contracts: slices.Delete and slices.Insert of surfaces, in place.
-/
set_option linter.unusedVariables false
namespace Go.Proofs.Ytfmjeakcfmmkfaa
open Go Sx
attribute [local irreducible] Exit.then Exit.inBlock bodyPost tcells
set_option maxRecDepth 100000 in
set_option maxHeartbeats 4000000 in
theorem c_deleteS (b cap k : Nat) (T : List (ETri DSurf)) (r : List Value) (W : World) (hk : k < T.length) (hcap : T.length ≤ cap) (hlen : (tcells eSurf T ++ r).length = cap * 11) (hm : cap ≤ maxLen) (h1 : oneCells (tcells eSurf T) = true)
    (hH : Holds W [(b, srow (tcells eSurf T ++ r) 62)]) (hn : SPiece.keys [(b, srow (tcells eSurf T ++ r) 62)] |>.Nodup) :
    SYieldsG Try.prog 188 #[.slice (some ⟨b, 0, none⟩) T.length cap, .int .i64 (k : Int), .int .i64 ((k : Int) + 1)] [(b, srow (tcells eSurf T ++ r) 62)]
      (fun u H' F => u = .slice (some ⟨b, 0, none⟩) (T.length - 1) cap ∧ (∃ r', H' = [(b, srow (tcells eSurf (T.eraseIdx k) ++ r') 62)] ∧ (tcells eSurf (T.eraseIdx k) ++ r').length = cap * 11) ∧ F = []) W := by
  have hcm : cap ≤ 9223372036854775807 := Nat.le_trans hm (by decide)
  have hcl := fun T' => tcells_length eSurf T'
  have hk11 : eSurf.k = 11 := rfl
  have hys : (tcells eSurf (T.drop (k + 1))).length = (T.length - (k + 1)) * 11 := by rw [hcl, List.length_drop]; rfl
  have hones : oneCells (tcells eSurf (T.drop (k + 1))) = true := by
    rw [← tcells_drop]
    have e := h1
    rw [← List.take_append_drop ((k + 1) * 11) (tcells eSurf T)] at e
    clear hlen hys
    revert e
    generalize (tcells eSurf T).take ((k + 1) * 11) = p
    generalize (tcells eSurf T).drop ((k + 1) * 11) = q
    intro e
    induction p with
    | nil => exact e
    | cons x p ih =>
      rw [List.cons_append] at e
      simp only [oneCells, Bool.and_eq_true] at e
      exact ih e.2
  have hn1 : ((k : Int) + 1).toNat = k + 1 := by omega
  have hA : (tcells eSurf T ++ r).take (k * 11) = tcells eSurf (T.take k) := by rw [List.take_append_of_le_length (by rw [hcl, hk11]; omega), tcells_take (by omega)]
  have hAl : (tcells eSurf (T.take k)).length = k * 11 := by rw [hcl, List.length_take, Nat.min_eq_left (by omega), hk11]
  have hX : ((tcells eSurf T ++ r).take (k * 11) ++ tcells eSurf (T.drop (k + 1)) ++ (tcells eSurf T ++ r).drop (k * 11 + (tcells eSurf (T.drop (k + 1))).length)).length = cap * 11 := by
    rw [hA, List.length_append, List.length_append, List.length_drop, hys, hAl, hlen]; omega
  have hn2 : (((k : Int).toNat + (T.length - ((k : Int) + 1).toNat) : Nat) : Int).toNat = T.length - 1 := by omega
  have hEl : (tcells eSurf (T.eraseIdx k)).length = (T.length - 1) * 11 := by rw [tcells_erase, List.length_append, hAl, hys]; omega
  have key : ∀ (o m' : Nat) (zs : List Value), o = (T.length - 1) * 11 → ((tcells eSurf T ++ r).take (k * 11) ++ tcells eSurf (T.drop (k + 1)) ++ (tcells eSurf T ++ r).drop (k * 11 + (tcells eSurf (T.drop (k + 1))).length)).take o ++ zs ++ ((tcells eSurf T ++ r).take (k * 11) ++ tcells eSurf (T.drop (k + 1)) ++ (tcells eSurf T ++ r).drop (k * 11 + (tcells eSurf (T.drop (k + 1))).length)).drop m' = tcells eSurf (T.eraseIdx k) ++ (zs ++ ((tcells eSurf T ++ r).take (k * 11) ++ tcells eSurf (T.drop (k + 1)) ++ (tcells eSurf T ++ r).drop (k * 11 + (tcells eSurf (T.drop (k + 1))).length)).drop m') := by
    intro o m' zs ho
    rw [List.append_assoc]
    refine congrArg (fun x => x ++ _) ?_
    rw [hA, ← tcells_erase, List.take_left' (by rw [hEl, ho])]
  refine SYieldsG.mk (s_enterM Try.func188 rfl Try.ntmps188 rfl hH hn ?_)
  repeat' (first | exact rfl | (apply kO; (first | exact ov_pure rfl | (apply kOBin; (first | exact aBin)) | (apply kOCall; (first | (apply kCallB; (first | exact aBlt | exact aLenR)))) | (apply kOLoad; (first | exact aLdF | exact aLdR)) | exact ov_fieldAddr rfl | (apply kOIdx; (first | exact aIdx)) | exact aRest | (apply kSlice; exact (ov_slice3 rfl rfl rfl rfl (by omega))) | (apply kSlice; exact (ov_sliceHi rfl rfl (by omega))) | (apply kSlice; exact (ov_sliceLK rfl rfl (by omega))) | (apply kSlice; exact (ov_sliceLH rfl rfl rfl (by omega))) | exact aNew | exact (ov_field1 (ft := 37) rfl rfl rfl rfl))) | (refine kN ?_; (first | (refine kCall ?_; (first | (refine kWApp ?_; (refine s_appendIn 0 (ys := tcells eSurf (T.drop (k + 1))) rfl rfl rfl hlen (by rw [hys]; congr 1) hones (fun w hw j q hj => ?_) (by omega) rfl ?_)) | apply s_step)) | (refine kStore ?_; (first | refine s_store1 _ rfl rfl gpA rfl (by rfl) ?_ | refine s_storeS _ rfl rfl gpA rfl rfl (by rfl) ?_ | refine s_storeS _ rfl rfl gpA rfl (ones_img oiA) (by rfl) ?_)) | refine s_boxS rfl rfl (fun b hb => ?_) | refine s_allocS rfl (fun b hb => ?_) | refine s_box1 rfl rfl rfl (fun b hb => ?_) | refine s_alloc1 rfl rfl (fun b hb => ?_) | (refine s_clear 0 rfl rfl rfl rfl ?_ (fun zs hz => ?_)) | refine s_buildSlice0 rfl (fun b hb => ?_) | refine s_buildSlice rfl rfl rfl rfl rfl (fun b hb => ?_) | apply s_step)) | (refine kG ?_; (first | refine s_gyes rfl rfl rfl ?_ | refine s_gno rfl rfl rfl rfl rfl ?_ | ((first | refine s_split_d rfl rfl (fun h => ?_) (fun h => ?_) | refine s_split_n rfl rfl (fun h => ?_) (fun h => ?_)) <;> (try (first | contradiction | (exfalso; omega)))) | refine s_split_nb rfl rfl (fun h => ?_) (fun h => ?_) | refine s_split rfl rfl (fun h => ?_) (fun h => ?_))) | (refine kS ?_; (first | refine h_exec rfl ?_ | refine h_take_nil rfl rfl rfl ?_ | refine h_take_pick rfl rfl rfl ?_ | refine h_nil ?_ | refine h_alt ?_ ?_ | apply h_take)) | (refine kBack ?_; (first | refine h_back_last rfl ?_ | refine h_backN rfl subA ?_)) | refine l_then ?_ | (refine kC ?_; (first | (refine kReg 5 ?_; refine c_regionSubN (SPlan.take 0 (SPlan.take 1 (SPlan.take 2 (SPlan.take 3 (SPlan.take 4 (SPlan.take 5 (SPlan.run 6 (SPlan.take 7 SPlan.done)))))))) none [false] rfl rfl rfl (by decide +kernel) ?_) | refine c_seq ?_ | refine c_regionN rfl ?_ | refine c_ret ?_ | (refine kCond ?_; (first | refine c_cond_t rfl ?_ | refine c_cond_f rfl ?_ | ((first | refine c_cond_d rfl (fun h => ?_) (fun h => ?_) | refine c_cond_n rfl (fun h => ?_) (fun h => ?_)) <;> (try (first | contradiction | (exfalso; omega)))) | refine c_cond_nb rfl (fun h => ?_) (fun h => ?_) | refine c_cond rfl (fun h => ?_) (fun h => ?_))) | refine c_block ?_ | refine c_skip ?_ | refine c_exit ?_ | refine c_regionQN rfl rfl (by decide +kernel) ?_)) | apply s_stepQ | (refine kQG ?_; (first | refine s_gyesQ rfl rfl rfl ?_ | refine s_gnoQ rfl rfl rfl rfl rfl ?_ | ((first | refine s_splitQ_d rfl rfl (fun h => ?_) (fun h => ?_) | refine s_splitQ_n rfl rfl (fun h => ?_) (fun h => ?_)) <;> (try (first | contradiction | (exfalso; omega)))) | refine s_splitQ_nb rfl rfl (fun h => ?_) (fun h => ?_) | refine s_splitQ rfl rfl (fun h => ?_) (fun h => ?_))) | refine lQ_then ?_ | refine lQ_ends ?_ | (refine kE ?_; (first | refine e_then_r ?_ | refine e_block_r ?_ | refine e_then_n ?_ | refine e_then_x ?_ | refine e_block_n ?_ | refine e_block_x ?_ | refine e_block_y rfl ?_)) | refine l_ends ?_)
  · have hjl := (List.getElem?_eq_some_iff.1 hj).1
    have e0 : offL cap 11 ((k : Int) + 1).toNat = (k + 1) * 11 := by rw [hn1]; exact offL_in (by omega)
    rw [e0, Addr.add_lit, Nat.zero_add]
    refine hw.captured (i := 0) rfl _ _ ?_
    rw [List.getElem?_append_left (by rw [hcl, hk11]; omega)]
    rw [← tcells_drop, List.getElem?_drop] at hj
    exact hj
  · rw [hn2, offL_in (show T.length - 1 < cap by omega)]
    show 0 + (T.length - 1) * 11 + ((T.length : Int).toNat - (T.length - 1)) * 11 ≤ _
    simp only [Int.toNat_natCast]
    rw [hX]; omega
  · have e0 : 0 + offL cap 11 (((k : Int).toNat + (T.length - ((k : Int) + 1).toNat) : Nat) : Int).toNat = (T.length - 1) * 11 := by rw [hn2, offL_in (show T.length - 1 < cap by omega), Nat.zero_add]
    refine s_leave1 rfl rfl (fun w hw => ⟨_, _, [], rfl, ⟨?_, ⟨_, congrArg (fun x => [(b, srow x 62)]) (key _ _ _ e0), ?_⟩, rfl⟩, SSt.lone hw⟩)
    · rw [show (k : Int).toNat + (T.length - ((k : Int) + 1).toNat) = T.length - 1 by omega]
    · rw [← key _ _ _ e0, List.length_append, List.length_append, List.length_take, List.length_drop, hX, hz, e0, hn2]
      simp only [Int.toNat_natCast]
      show min ((T.length - 1) * 11) (cap * 11) + (T.length - (T.length - 1)) * 11 + (cap * 11 - ((T.length - 1) * 11 + (T.length - (T.length - 1)) * 11)) = cap * 11
      omega
section
variable {n : Nat} {lo : SMut} {s : World} {E : SEnv} {L : SHeap} {d : Option Tmp} {ty : TypeId} {pos : String} {after : Array Edge} {g : Option (Nat × Bool)}
theorem ov_overlapsS {args : List Operand} {ts : Array TypeId} {b2 b o2 o m2 c2 m c : Nat} {x l : List Value} {T2 T : TypeId} (ha : svals E args = some [.slice (some ⟨b2, o2, none⟩) m2 c2, .slice (some ⟨b, o, none⟩) m c])
    (h2 : ∀ w, SSt lo s L w → w.heap[b2]? = some (srow x T2)) (h1 : ∀ w, SSt lo s L w → w.heap[b]? = some (srow l T)) (hne : b2 ≠ b) (hl : l.length ≠ 0) :
    SOpV Try.prog n lo s E L ⟨d, .call { callee := .value (.func 223), args := args.toArray, argTypes := ts }, ty, pos, after, g⟩ (.bool false) :=
  SOpV.of_run fun a hs w hw => by
    have e2 := h2 w hw
    have e1 := h1 w hw
    have hc : (callFunc 223 [Value.slice (some ⟨b2, o2, none⟩) m2 c2, .slice (some ⟨b, o, none⟩) m c].toArray).run Try.prog w = .ok (.value (.bool false)) w := by
      rw [run_callFunc_extern Try.func223 (by kernel_rfl) (by kernel_rfl) (by kernel_rfl) (e := Extern.SlicesOverlaps.overlaps #[24, 24] #[4]) (by kernel_rfl),
        Lib.run_overlaps_apart w 24 4 62 Try.underlying24 11 (fun w => srun_sizeOf w) ⟨b2, o2, none⟩ ⟨b, o, none⟩ m2 c2 m c hne T2 T x.length l.length (by simp [World.shape?, e2, srow]) (by simp [World.shape?, e1, srow]) hl (by simp [World.frozen?, e2, srow]) (by simp [World.frozen?, e2, srow])]
      rfl
    rw [← hs.svals ha] at hc
    simp [execOp, resolve, Act.eval, Deferred.ofValue, invoke, hc]
end
set_option maxRecDepth 100000 in
set_option maxHeartbeats 4000000 in
theorem c_insert0 (b b2 cap n : Nat) (xs r x : List Value) (T2 : TypeId) (W : World) (hxs : xs.length = n * 11) (hlen : (xs ++ r).length = cap * 11) (hcap : n + 1 ≤ cap) (hm : cap ≤ maxLen) (hx : x.length = 11) (h1 : oneCells xs = true) (h2 : oneCells x = true)
    (hne : b2 ≠ b) (hb2 : W.heap[b2]? = some (srow x T2)) (hH : Holds W [(b, srow (xs ++ r) 62)]) (hn : SPiece.keys [(b, srow (xs ++ r) 62)] |>.Nodup) :
    SYieldsG Try.prog 189 #[.slice (some ⟨b, 0, none⟩) n cap, .int .i64 0, .slice (some ⟨b2, 0, none⟩) 1 1] [(b, srow (xs ++ r) 62)]
      (fun u H' F => u = .slice (some ⟨b, 0, none⟩) (n + 1) cap ∧ (∃ r', H' = [(b, srow (x ++ xs ++ r') 62)] ∧ (x ++ xs ++ r').length = cap * 11) ∧ F = []) W := by
  have hcm : cap ≤ 9223372036854775807 := Nat.le_trans hm (by decide)
  have hlt := (Array.getElem?_eq_some_iff.1 hb2).1
  have hrd : ∀ {L : SHeap} {w : World}, SSt (SPiece.keys [(b, srow (xs ++ r) 62)]) W L w → w.heap[b2]? = some (srow x T2) := fun hw => (hw.kept.block b2 hlt (by simpa [SPiece.keys] using hne)).trans hb2
  have hrx : ∀ {L : SHeap} {w : World}, SSt (SPiece.keys [(b, srow (xs ++ r) 62)]) W L w → ∀ j q, x[j]? = some q → w.cell? ((⟨b2, 0, none⟩ : Addr).add j) = some q := fun hw j q hj => by
    rw [Addr.add_lit, Nat.zero_add]
    simp [World.cell?, hrd hw, srow, hj]
  have ho0 : offL cap 11 0 = 0 := by unfold offL; split <;> rfl
  have e1 : offL cap 11 (0 + ((1 : Nat) : Int)).toNat = 11 ∨ n = 0 := by
    by_cases h0 : n = 0
    · exact .inr h0
    · exact .inl (by rw [offL_in (show (0 + ((1 : Nat) : Int)).toNat < cap by omega)]; rfl)
  have hD : 0 < n → ((xs ++ r).take 11 ++ xs ++ (xs ++ r).drop (11 + xs.length)).length = cap * 11 := fun _ => by
    rw [List.length_append, List.length_append, List.length_take, List.length_drop, hlen, hxs]; omega
  have hDd : 0 < n → ((xs ++ r).take 11 ++ xs ++ (xs ++ r).drop (11 + xs.length)).drop 11 = xs ++ (xs ++ r).drop (11 + xs.length) := fun _ => by
    rw [List.append_assoc, List.drop_left' (by rw [List.length_take, hlen]; omega)]
  refine SYieldsG.mk (s_enterM Try.func189 rfl Try.ntmps189 rfl hH hn ?_)
  repeat' (first | exact rfl | (apply kO; (first | exact ov_pure rfl | (apply kOBin; (first | exact aBin)) | (apply kOCall; (first | (apply kCallB; (first | exact aBlt | exact aLenR)))) | (apply kOLoad; (first | exact aLdF | exact aLdR)) | exact ov_fieldAddr rfl | (apply kOIdx; (first | exact aIdx)) | exact aRest | exact (ov_cap rfl) | (apply kSlice; exact (ov_sliceHi rfl rfl (by omega))) | (apply kSlice; exact (ov_sliceLK rfl rfl (by omega))) | exact (ov_overlapsS rfl (fun w hw => hrd hw) (fun w hw => hw.holds (i := 0) rfl _ _ (List.mem_singleton.2 rfl)) hne (by omega)) | exact aNew | exact (ov_field1 (ft := 37) rfl rfl rfl rfl))) | (refine kN ?_; (first | (refine kCall ?_; (first | (refine kWApp ?_; (refine s_appendIn 0 (ys := x) rfl rfl rfl hlen (by rw [hx]) h2 (fun w hw => hrx hw) (by omega) rfl ?_)) | (refine s_copyK 0 (cs := xs) rfl rfl rfl (by rw [hxs]; refine congrArg (· * 11) ?_; show n = min _ _; omega) ?_ h1 (fun w hw => ?_) rfl ?_) | (refine s_copyK 0 (cs := x) rfl rfl rfl (by rw [hx]; show 11 = min _ _ * 11; omega) ?_ h2 (fun w hw => hrx hw) rfl ?_) | apply s_step)) | (refine kStore ?_; (first | refine s_store1 _ rfl rfl gpA rfl (by rfl) ?_ | refine s_storeS _ rfl rfl gpA rfl rfl (by rfl) ?_ | refine s_storeS _ rfl rfl gpA rfl (ones_img oiA) (by rfl) ?_)) | refine s_boxS rfl rfl (fun b hb => ?_) | refine s_allocS rfl (fun b hb => ?_) | refine s_box1 rfl rfl rfl (fun b hb => ?_) | refine s_alloc1 rfl rfl (fun b hb => ?_) | refine s_buildSlice0 rfl (fun b hb => ?_) | refine s_buildSlice rfl rfl rfl rfl rfl (fun b hb => ?_) | apply s_step)) | (refine kG ?_; (first | refine s_gyes rfl rfl rfl ?_ | refine s_gno rfl rfl rfl rfl rfl ?_ | ((first | refine s_split_d rfl rfl (fun h => ?_) (fun h => ?_) | refine s_split_n rfl rfl (fun h => ?_) (fun h => ?_)) <;> (try (first | contradiction | (exfalso; omega) | (exfalso; (exfalso; omega))))) | refine s_split_nb rfl rfl (fun h => ?_) (fun h => ?_) | refine s_split rfl rfl (fun h => ?_) (fun h => ?_))) | (refine kS ?_; (first | refine h_exec rfl ?_ | refine h_take_nil rfl rfl rfl ?_ | refine h_take_pick rfl rfl rfl ?_ | refine h_nil ?_ | refine h_alt ?_ ?_ | apply h_take)) | (refine kBack ?_; (first | refine h_back_last rfl ?_ | refine h_backN rfl subA ?_)) | refine l_then ?_ | (refine kC ?_; (first | (refine kReg 15 ?_; refine c_regionSubN (SPlan.take 0 (SPlan.take 1 (SPlan.take 2 (SPlan.take 3 (SPlan.take 4 (SPlan.take 5 (SPlan.take 6 (SPlan.take 7 (SPlan.run 8 SPlan.done))))))))) none [false] rfl rfl rfl (by decide +kernel) ?_) | refine c_seq ?_ | refine c_regionN rfl ?_ | refine c_ret ?_ | (refine kCond ?_; (first | refine c_cond_t rfl ?_ | refine c_cond_f rfl ?_ | ((first | refine c_cond_d rfl (fun h => ?_) (fun h => ?_) | refine c_cond_n rfl (fun h => ?_) (fun h => ?_)) <;> (try (first | contradiction | (exfalso; omega) | (exfalso; (exfalso; omega))))) | refine c_cond_nb rfl (fun h => ?_) (fun h => ?_) | refine c_cond rfl (fun h => ?_) (fun h => ?_))) | refine c_block ?_ | refine c_skip ?_ | refine c_exit ?_ | refine c_regionQN rfl rfl (by decide +kernel) ?_)) | apply s_stepQ | (refine kQG ?_; (first | refine s_gyesQ rfl rfl rfl ?_ | refine s_gnoQ rfl rfl rfl rfl rfl ?_ | ((first | refine s_splitQ_d rfl rfl (fun h => ?_) (fun h => ?_) | refine s_splitQ_n rfl rfl (fun h => ?_) (fun h => ?_)) <;> (try (first | contradiction | (exfalso; omega) | (exfalso; (exfalso; omega))))) | refine s_splitQ_nb rfl rfl (fun h => ?_) (fun h => ?_) | refine s_splitQ rfl rfl (fun h => ?_) (fun h => ?_))) | refine lQ_then ?_ | refine lQ_ends ?_ | (refine kE ?_; (first | refine e_then_r ?_ | refine e_block_r ?_ | refine e_then_n ?_ | refine e_then_x ?_ | refine e_block_n ?_ | refine e_block_x ?_ | refine e_block_y rfl ?_)) | refine l_ends ?_)
  · have hx0 : xs = [] := List.eq_nil_of_length_eq_zero (by rw [hxs]; omega)
    have hn0 : n = 0 := by omega
    subst hn0
    subst hx0
    refine s_leave1 rfl rfl (fun w hw => ⟨_, _, [], rfl, ⟨rfl, ⟨r.drop 11, ?_, ?_⟩, rfl⟩, SSt.lone hw⟩)
    · simp [hx]
    · simp only [List.nil_append, List.append_nil, List.length_append, List.length_drop, hx] at hlen ⊢; omega
  · rw [hlen, hxs, offL_in (show (0 + ((1 : Nat) : Int)).toNat < cap by omega)]; show 0 + 1 * 11 + n * 11 ≤ cap * 11; omega
  · intro j v hj
    rw [show (0 : Int).toNat = 0 from rfl, ho0, Addr.add_lit, Nat.zero_add]
    refine hw.captured (i := 0) rfl _ _ ?_
    rw [List.getElem?_append_left (List.getElem?_eq_some_iff.1 hj).1]
    simpa using hj
  · have e1 : offL cap 11 (0 + ((1 : Nat) : Int)).toNat = 11 := e1.resolve_right (by omega)
    rw [e1, show Int.toNat 0 = 0 from rfl, ho0, hx]; simp only [Nat.zero_add]; rw [hD (by omega)]; omega
  · have e1 : offL cap 11 (0 + ((1 : Nat) : Int)).toNat = 11 := e1.resolve_right (by omega)
    refine s_leave1 rfl rfl (fun w hw => ⟨_, _, [], rfl, ⟨?_, ⟨(xs ++ r).drop (11 + xs.length), ?_, ?_⟩, rfl⟩, SSt.lone hw⟩)
    · rw [show ((n : Int) + ((1 : Nat) : Int)).toNat = n + 1 by omega]
    · rw [e1, show Int.toNat 0 = 0 from rfl, ho0, hx]; simp only [Nat.zero_add, List.take_zero, List.nil_append]; rw [hDd (by omega), List.append_assoc]
    · rw [List.length_append, List.length_append, List.length_drop, hlen, hx, hxs]; omega
end Go.Proofs.Ytfmjeakcfmmkfaa
/-
  Contracts: an edit in place, by the program: the kinds that leave the surfaces where they are.
-/
set_option linter.unusedVariables false
namespace Go.Proofs.Ytfmjeakcfmmkfaa
open Go Sx
attribute [local irreducible] Exit.then Exit.inBlock bodyPost tcells OInts OElems
/-- what 'edited' leaves: the struct at 'bo' and its surfaces -/
def EdOut (bo : Nat) (s : DScene) (H' : SPiece) : Prop := ∃ v' H2, H' = [(bo, srow [.int .i64 s.W, .int .i64 s.H, .int .i64 s.Back, v'] 26)] ++ H2 ∧ OElems eSurf 62 v' s.ss H2
abbrev EdPre (bo : Nat) (s : DScene) (v : Value) (H : SPiece) : SPiece := [(bo, srow [.int .i64 s.W, .int .i64 s.H, .int .i64 s.Back, v] 26)] ++ H
set_option maxHeartbeats 4000000 in
theorem c_editedAdd (s : DScene) (e : DEdit) (v d : Value) (bo : Nat) (H : SPiece) (W : World) (hk : e.Kind = 0) (hlen : s.ss.length ≤ 6) (hv : OElems eSurf 62 v s.ss H) (hd : RInts W d e.buf.data) (hap : 0 < e.buf.data.length → Apart (EdPre bo s v H).keys d) (hl : e.buf.data.length ≤ 1000000000) (hH : Holds W (EdPre bo s v H)) (hn : (EdPre bo s v H).keys.Nodup) :
    SYieldsG Try.prog 123 #[.pointer (some ⟨bo, 0, none⟩), vEdit e d] (EdPre bo s v H) (fun u H' F => u = .bool true ∧ EdOut bo (edited s e) H' ∧ F = []) W := by
  rw [edited_add hk]
  have hvf := hv.form
  obtain ⟨va, vc, rfl⟩ := hvf
  refine SYieldsG.mk (s_enterM Try.func123 rfl Try.ntmps123 rfl hH hn ?_)
  refine cc_perm (L' := [[(bo, srow [.int .i64 s.W, .int .i64 s.H, .int .i64 s.Back, .slice va s.ss.length vc] 26)], H]) (by simp) ?_
  repeat' (first | exact rfl | (apply kO; (first | exact ov_pure rfl | (apply kOBin; (first | exact aBin)) | (apply kOCall; (first | (apply kCallB; (first | exact aBlt | exact aLenR)))) | (apply kOLoad; (first | exact aLdF | exact aLdR)) | exact ov_fieldAddr rfl | (apply kOIdx; (first | exact aIdx)) | exact aRest | exact aNew | exact (ov_field1 (ft := 37) rfl rfl rfl rfl))) | (refine kN ?_; (first | (refine kCall ?_; (first | (refine kWFn 114 ?_; (refine s_callF (fun u H => OImg u e.buf H) rfl (fun w hw => c_copyImage e.buf _ w (RInts.keepN hd hap hw) hl) rfl (fun u H hu => ?_); obtain ⟨d', rfl, hu⟩ := hu; have f1 := hu.form; obtain ⟨_, _, rfl⟩ := f1)) | (refine kWApp ?_; (refine s_appendE _ _ _ (el := eSurf) (a := added e) rfl rfl hv gpA gpA (show eSurf.own _ _ _ from hu) gpA rfl rfl (eSurf_ones (OInts.one (by assumption))) (by rw [scells_eq]; rfl) (by decide) (by omega) (by decide) rfl (fun v' H' hv' => ?_); have f1 := hv'.form; obtain ⟨ua, uc, rfl⟩ := f1)) | apply s_step)) | (refine kStore ?_; (first | refine s_store1 _ rfl rfl gpA rfl (by rfl) ?_ | refine s_storeS _ rfl rfl gpA rfl rfl (by rfl) ?_ | refine s_storeS _ rfl rfl gpA rfl (ones_img oiA) (by rfl) ?_)) | refine s_boxS rfl rfl (fun b hb => ?_) | refine s_allocS rfl (fun b hb => ?_) | refine s_box1 rfl rfl rfl (fun b hb => ?_) | refine s_alloc1 rfl rfl (fun b hb => ?_) | refine s_buildSlice0 rfl (fun b hb => ?_) | refine s_buildSlice rfl rfl rfl rfl rfl (fun b hb => ?_) | apply s_step)) | (refine kG ?_; (first | refine s_gyes rfl rfl rfl ?_ | refine s_gno rfl rfl rfl rfl rfl ?_ | ((first | refine s_split_d rfl rfl (fun h => ?_) (fun h => ?_) | refine s_split_n rfl rfl (fun h => ?_) (fun h => ?_)) <;> (try (first | contradiction | (exfalso; omega) | (exfalso; (exfalso; omega))))) | refine s_split_nb rfl rfl (fun h => ?_) (fun h => ?_) | refine s_split rfl rfl (fun h => ?_) (fun h => ?_))) | (refine kS ?_; (first | refine h_exec rfl ?_ | refine h_take_nil rfl rfl rfl ?_ | refine h_take_pick rfl rfl rfl ?_ | refine h_nil ?_ | refine h_alt ?_ ?_ | apply h_take)) | (refine kBack ?_; (first | refine h_back_last rfl ?_ | refine h_backN rfl subA ?_)) | refine l_then ?_ | (refine kC ?_; (first | (refine kReg 3 ?_; refine c_regionSubN (SPlan.take 0 (SPlan.take 1 (SPlan.take 2 (SPlan.take 3 (SPlan.take 5 (SPlan.take 6 (SPlan.take 7 (SPlan.take 8 (SPlan.take 9 (SPlan.take 10 (SPlan.take 11 (SPlan.take 12 ((SPlan.run 4 (SPlan.run 13 (SPlan.take 14 (SPlan.run 15 (SPlan.run 16 (SPlan.take 17 (SPlan.take 18 (SPlan.run 19 SPlan.done)))))))).alt (SPlan.run 13 (SPlan.take 14 ((SPlan.run 4 (SPlan.run 15 (SPlan.run 16 (SPlan.take 17 (SPlan.take 18 (SPlan.run 19 SPlan.done)))))).alt (SPlan.run 15 (SPlan.run 4 (SPlan.run 16 (SPlan.take 17 (SPlan.take 18 (SPlan.run 19 SPlan.done)))))))))))))))))))))) none [true, false, false] rfl rfl rfl (by decide +kernel) ?_) | refine c_seq ?_ | refine c_regionN rfl ?_ | refine c_ret ?_ | (refine kCond ?_; (first | refine c_cond_t rfl ?_ | refine c_cond_f rfl ?_ | ((first | refine c_cond_d rfl (fun h => ?_) (fun h => ?_) | refine c_cond_n rfl (fun h => ?_) (fun h => ?_)) <;> (try (first | contradiction | (exfalso; omega) | (exfalso; (exfalso; omega))))) | refine c_cond_nb rfl (fun h => ?_) (fun h => ?_) | refine c_cond rfl (fun h => ?_) (fun h => ?_))) | refine c_block ?_ | refine c_skip ?_ | refine c_exit ?_ | refine c_regionQN rfl rfl (by decide +kernel) ?_)) | apply s_stepQ | (refine kQG ?_; (first | refine s_gyesQ rfl rfl rfl ?_ | refine s_gnoQ rfl rfl rfl rfl rfl ?_ | ((first | refine s_splitQ_d rfl rfl (fun h => ?_) (fun h => ?_) | refine s_splitQ_n rfl rfl (fun h => ?_) (fun h => ?_)) <;> (try (first | contradiction | (exfalso; omega) | (exfalso; (exfalso; omega))))) | refine s_splitQ_nb rfl rfl (fun h => ?_) (fun h => ?_) | refine s_splitQ rfl rfl (fun h => ?_) (fun h => ?_))) | refine lQ_then ?_ | refine lQ_ends ?_ | (refine kE ?_; (first | refine e_then_r ?_ | refine e_block_r ?_ | refine e_then_n ?_ | refine e_then_x ?_ | refine e_block_n ?_ | refine e_block_x ?_ | refine e_block_y rfl ?_)) | refine l_ends ?_)
  all_goals first | (exact s_leave1 rfl rfl (fun w hw => ⟨_, [(bo, srow [.int .i64 s.W, .int .i64 s.H, .int .i64 s.Back, _] 26)] ++ H', [], rfl, ⟨rfl, ⟨_, H', rfl, hv'⟩, rfl⟩, SSt_two (hw.picks (by (repeat' first | exact Picks.nil | exact gp_hd | apply gp_tl | apply Picks.cons); done) (by rfl))⟩)) | (trace_state; sorry)
set_option maxHeartbeats 4000000 in
theorem c_editedBack (s : DScene) (e : DEdit) (v d : Value) (bo : Nat) (H : SPiece) (W : World) (hk : e.Kind = 10) (hv : OElems eSurf 62 v s.ss H) (hd : RInts W d e.buf.data) (hH : Holds W (EdPre bo s v H)) (hn : (EdPre bo s v H).keys.Nodup) :
    SYieldsG Try.prog 123 #[.pointer (some ⟨bo, 0, none⟩), vEdit e d] (EdPre bo s v H) (fun u H' F => u = .bool true ∧ EdOut bo (edited s e) H' ∧ F = []) W := by
  rw [edited_back hk]
  have hdf := hd.form
  obtain ⟨da, dc, rfl⟩ := hdf
  refine SYieldsG.mk (s_enterM Try.func123 rfl Try.ntmps123 rfl hH hn ?_)
  refine cc_perm (L' := [[(bo, srow [.int .i64 s.W, .int .i64 s.H, .int .i64 s.Back, v] 26)], H]) (by simp) ?_
  repeat' (first | exact rfl | (apply kO; (first | exact ov_pure rfl | (apply kOBin; (first | exact aBin)) | (apply kOCall; (first | (apply kCallB; (first | exact aBlt | exact aLenR)))) | (apply kOLoad; (first | exact aLdF | exact aLdR)) | exact ov_fieldAddr rfl | (apply kOIdx; (first | exact aIdx)) | exact aRest | exact aNew | exact (ov_field1 (ft := 37) rfl rfl rfl rfl))) | (refine kN ?_; (first | (refine kStore ?_; (first | refine s_store1 _ rfl rfl gpA rfl (by rfl) ?_ | refine s_storeS _ rfl rfl gpA rfl rfl (by rfl) ?_ | refine s_storeS _ rfl rfl gpA rfl (ones_img oiA) (by rfl) ?_)) | refine s_boxS rfl rfl (fun b hb => ?_) | refine s_allocS rfl (fun b hb => ?_) | refine s_box1 rfl rfl rfl (fun b hb => ?_) | refine s_alloc1 rfl rfl (fun b hb => ?_) | refine s_buildSlice0 rfl (fun b hb => ?_) | refine s_buildSlice rfl rfl rfl rfl rfl (fun b hb => ?_) | apply s_step)) | (refine kG ?_; (first | refine s_gyes rfl rfl rfl ?_ | refine s_gno rfl rfl rfl rfl rfl ?_ | ((first | refine s_split_d rfl rfl (fun h => ?_) (fun h => ?_) | refine s_split_n rfl rfl (fun h => ?_) (fun h => ?_)) <;> (try (first | contradiction | (exfalso; omega) | (exfalso; (exfalso; omega))))) | refine s_split_nb rfl rfl (fun h => ?_) (fun h => ?_) | refine s_split rfl rfl (fun h => ?_) (fun h => ?_))) | refine l_then ?_ | (refine kC ?_; (first | refine c_seq ?_ | refine c_regionN rfl ?_ | refine c_ret ?_ | (refine kCond ?_; (first | refine c_cond_t rfl ?_ | refine c_cond_f rfl ?_ | ((first | refine c_cond_d rfl (fun h => ?_) (fun h => ?_) | refine c_cond_n rfl (fun h => ?_) (fun h => ?_)) <;> (try (first | contradiction | (exfalso; omega) | (exfalso; (exfalso; omega))))) | refine c_cond_nb rfl (fun h => ?_) (fun h => ?_) | refine c_cond rfl (fun h => ?_) (fun h => ?_))) | refine c_block ?_ | refine c_skip ?_ | refine c_exit ?_ | refine c_regionQN rfl rfl (by decide +kernel) ?_)) | apply s_stepQ | (refine kQG ?_; (first | refine s_gyesQ rfl rfl rfl ?_ | refine s_gnoQ rfl rfl rfl rfl rfl ?_ | ((first | refine s_splitQ_d rfl rfl (fun h => ?_) (fun h => ?_) | refine s_splitQ_n rfl rfl (fun h => ?_) (fun h => ?_)) <;> (try (first | contradiction | (exfalso; omega) | (exfalso; (exfalso; omega))))) | refine s_splitQ_nb rfl rfl (fun h => ?_) (fun h => ?_) | refine s_splitQ rfl rfl (fun h => ?_) (fun h => ?_))) | refine lQ_then ?_ | refine lQ_ends ?_ | (refine kE ?_; (first | refine e_then_r ?_ | refine e_block_r ?_ | refine e_then_n ?_ | refine e_then_x ?_ | refine e_block_n ?_ | refine e_block_x ?_ | refine e_block_y rfl ?_)) | refine l_ends ?_)
  all_goals exact s_leave1 rfl rfl (fun w hw => ⟨_, [(bo, srow [.int .i64 s.W, .int .i64 s.H, .int .i64 e.A, _] 26)] ++ H, [], rfl, ⟨rfl, ⟨_, H, rfl, hv⟩, rfl⟩, SSt_two (hw.picks (by (repeat' first | exact Picks.nil | exact gp_hd | apply gp_tl | apply Picks.cons); done) (by rfl))⟩)
set_option maxHeartbeats 4000000 in
theorem c_editedNo (s : DScene) (e : DEdit) (v d : Value) (bo : Nat) (H : SPiece) (W : World) (hk : ¬ editable s e) (hv : OElems eSurf 62 v s.ss H) (hd : RInts W d e.buf.data) (hH : Holds W (EdPre bo s v H)) (hn : (EdPre bo s v H).keys.Nodup) :
    SYieldsG Try.prog 123 #[.pointer (some ⟨bo, 0, none⟩), vEdit e d] (EdPre bo s v H) (fun u H' F => u = .bool false ∧ EdOut bo s H' ∧ F = []) W := by
  have hdf := hd.form
  obtain ⟨da, dc, rfl⟩ := hdf
  have hvf := hv.form
  obtain ⟨va, vc, rfl⟩ := hvf
  unfold editable at hk
  have hil := index_lt s.ss e.Id
  obtain ⟨T, H0, G, hT, h1, h2, rfl⟩ := OElems.tri hv
  have hTl : T.length = s.ss.length := by rw [← hT, List.length_map]
  refine SYieldsG.mk (s_enterM Try.func123 rfl Try.ntmps123 rfl hH hn ?_)
  refine cc_perm (L' := [[(bo, srow [.int .i64 s.W, .int .i64 s.H, .int .i64 s.Back, .slice va s.ss.length vc] 26)], H0, tpiece T ++ G]) (by simp) ?_
  repeat' (first | exact rfl | (apply kO; (first | exact ov_pure rfl | (apply kOBin; (first | exact aBin)) | (apply kOCall; (first | (apply kCallF; (first | exact (ov_call rfl (fun w hw => c_isurfaceIndex s _ _ w (OElems.rs hv (holds_app (hfA hw) (hfA hw))))))) | (apply kCallB; (first | exact aBlt | exact aLenR)))) | (apply kOLoad; (first | exact aLdF | exact aLdR)) | exact ov_fieldAddr rfl | (apply kOIdx; (first | exact (ov_idxR (fun w hw => trow h1 (hfA hw)) rfl rfl (by omega)) | exact aIdx)) | exact aRest | exact aNew | exact (ov_field1 (ft := 37) rfl rfl rfl rfl))) | (refine kN ?_; (first | (refine kStore ?_; (first | refine s_store1 _ rfl rfl gpA rfl (by rfl) ?_ | refine s_storeS _ rfl rfl gpA rfl rfl (by rfl) ?_ | refine s_storeS _ rfl rfl gpA rfl (ones_img oiA) (by rfl) ?_)) | refine s_boxS rfl rfl (fun b hb => ?_) | refine s_allocS rfl (fun b hb => ?_) | refine s_box1 rfl rfl rfl (fun b hb => ?_) | refine s_alloc1 rfl rfl (fun b hb => ?_) | refine s_buildSlice0 rfl (fun b hb => ?_) | refine s_buildSlice rfl rfl rfl rfl rfl (fun b hb => ?_) | apply s_step)) | (refine kG ?_; (first | refine s_gyes rfl rfl rfl ?_ | refine s_gno rfl rfl rfl rfl rfl ?_ | ((first | refine s_split_d rfl rfl (fun h => ?_) (fun h => ?_) | refine s_split_n rfl rfl (fun h => ?_) (fun h => ?_)) <;> (try (first | contradiction | (exfalso; omega) | (exfalso; (exfalso; omega))))) | refine s_split_nb rfl rfl (fun h => ?_) (fun h => ?_) | refine s_split rfl rfl (fun h => ?_) (fun h => ?_))) | refine l_then ?_ | (refine kC ?_; (first | refine c_seq ?_ | refine c_regionN rfl ?_ | refine c_ret ?_ | (refine kCond ?_; (first | refine c_cond_t rfl ?_ | refine c_cond_f rfl ?_ | ((first | refine c_cond_d rfl (fun h => ?_) (fun h => ?_) | refine c_cond_n rfl (fun h => ?_) (fun h => ?_)) <;> (try (first | contradiction | (exfalso; omega) | (exfalso; (exfalso; omega))))) | refine c_cond_nb rfl (fun h => ?_) (fun h => ?_) | refine c_cond rfl (fun h => ?_) (fun h => ?_))) | refine c_block ?_ | refine c_skip ?_ | refine c_exit ?_ | refine c_regionQN rfl rfl (by decide +kernel) ?_)) | apply s_stepQ | (refine kQG ?_; (first | refine s_gyesQ rfl rfl rfl ?_ | refine s_gnoQ rfl rfl rfl rfl rfl ?_ | ((first | refine s_splitQ_d rfl rfl (fun h => ?_) (fun h => ?_) | refine s_splitQ_n rfl rfl (fun h => ?_) (fun h => ?_)) <;> (try (first | contradiction | (exfalso; omega) | (exfalso; (exfalso; omega))))) | refine s_splitQ_nb rfl rfl (fun h => ?_) (fun h => ?_) | refine s_splitQ rfl rfl (fun h => ?_) (fun h => ?_))) | refine lQ_then ?_ | refine lQ_ends ?_ | (refine kE ?_; (first | refine e_then_r ?_ | refine e_block_r ?_ | refine e_then_n ?_ | refine e_then_x ?_ | refine e_block_n ?_ | refine e_block_x ?_ | refine e_block_y rfl ?_)) | refine l_ends ?_)
  all_goals exact s_leave1 rfl rfl (fun w hw => ⟨_, [(bo, srow [.int .i64 s.W, .int .i64 s.H, .int .i64 s.Back, _] 26)] ++ (H0 ++ (tpiece T ++ G)), [], rfl, ⟨rfl, ⟨_, _, rfl, hv⟩, rfl⟩, SSt_three (hw.picks (by (repeat' first | exact Picks.nil | exact gp_hd | apply gp_tl | apply Picks.cons); done) (by rfl))⟩)
end Go.Proofs.Ytfmjeakcfmmkfaa
/-
  Contracts: an edit in place, by the program: the kinds that turn one surface.
-/
set_option linter.unusedVariables false
namespace Go.Proofs.Ytfmjeakcfmmkfaa
open Go Sx
attribute [local irreducible] Exit.then Exit.inBlock bodyPost tcells OInts OElems
/-- where the surfaces lie, taken apart -/
structure EdAt (s : DScene) (k : Nat) (T : List (ETri DSurf)) (b0 cap : Nat) (r : List Value) : Prop where
  map : T.map (·.1) = s.ss
  kin : k < T.length
  own : ∀ t ∈ T, eSurf.own t.2.1 t.1 t.2.2
  len : (tcells eSurf T ++ r).length = cap * 11
  cap1 : T.length ≤ cap
  cap2 : cap ≤ maxLen
theorem EdAt.fst {s : DScene} {k : Nat} {T : List (ETri DSurf)} {b0 cap : Nat} {r : List Value} (h : EdAt s k T b0 cap r) : (T.getD k dT).1 = s.ss.getD k default := by rw [getT_fst, h.map]
theorem EdAt.vec {s : DScene} {k : Nat} {T : List (ETri DSurf)} {b0 cap : Nat} {r : List Value} (h : EdAt s k T b0 cap r) : OVec eSurf.k 62 (.slice (some ⟨b0, 0, none⟩) T.length cap) T.length (tcells eSurf T) [(b0, srow (tcells eSurf T ++ r) 62)] :=
  OVec.blk b0 T.length cap (tcells eSurf T) r (tcells_length _ _) h.len h.cap1 h.cap2
theorem EdAt.elems {s : DScene} {k : Nat} {T : List (ETri DSurf)} {b0 cap : Nat} {r : List Value} {G : SPiece} (h : EdAt s k T b0 cap r) : OElems eSurf 62 (.slice (some ⟨b0, 0, none⟩) T.length cap) s.ss ([(b0, srow (tcells eSurf T ++ r) 62)] ++ (tpiece T ++ G)) := by
  have := OElems.ofTri (G := G) h.vec h.own
  rw [h.map] at this; exact this
/-- one surface turned where it lies -/
theorem EdAt.turn {s : DScene} {k : Nat} {T : List (ETri DSurf)} {b0 cap : Nat} {r : List Value} {G : SPiece} (h : EdAt s k T b0 cap r) (a' : DSurf) (he : a'.buf = (s.ss.getD k default).buf) :
    OElems eSurf 62 (.slice (some ⟨b0, 0, none⟩) T.length cap) (s.ss.set k a') ([(b0, srow (tcells eSurf (T.set k (a', (T.getD k dT).2.1, (T.getD k dT).2.2)) ++ r) 62)] ++ (tpiece T ++ G)) := by
  have hT : (T.set k (a', (T.getD k dT).2.1, (T.getD k dT).2.2)).length = T.length := List.length_set
  have hl := tcells_length eSurf (T.set k (a', (T.getD k dT).2.1, (T.getD k dT).2.2))
  have h0 := tcells_length eSurf T
  have ho := h.own _ (getT_mem h.kin)
  rw [h.fst] at ho
  have ho' : eSurf.own (T.getD k dT).2.1 a' (T.getD k dT).2.2 := by
    show OInts 3 _ a'.buf.data _
    rw [he]; exact ho
  have := OElems.ofTri (e := eSurf) (U := 62) (v := .slice (some ⟨b0, 0, none⟩) T.length cap) (T := T.set k (a', (T.getD k dT).2.1, (T.getD k dT).2.2)) (H0 := [(b0, srow (tcells eSurf (T.set k (a', (T.getD k dT).2.1, (T.getD k dT).2.2)) ++ r) 62)]) (G := G)
    (by rw [hT]; exact OVec.blk b0 T.length cap _ r (by rw [hl, hT]) (by have := h.len; rw [List.length_append] at this ⊢; rw [hl, hT, ← h0]; exact this) h.cap1 h.cap2) (own_set h.own ho')
  rw [map_setT, h.map, tpiece_set h.kin] at this
  exact this
theorem edited_turn {s : DScene} {e : DEdit} {k : Nat} (hk : e.Kind ≠ 0 ∧ e.Kind ≠ 10 ∧ e.Kind ≠ 1 ∧ e.Kind ≠ 3 ∧ e.Kind ≠ 4) (hi : surfaceIndex s.ss e.Id = (k : Int)) : edited s e = { s with ss := s.ss.set k (touched (s.ss.getD k default) e) } := by
  rw [edited_k ⟨hk.1, hk.2.1⟩, editK_set hk.2.2, hi, Int.toNat_natCast]
abbrev EdIn (bo b0 cap : Nat) (s : DScene) (T : List (ETri DSurf)) (r : List Value) (G : SPiece) : SPiece := EdPre bo s (.slice (some ⟨b0, 0, none⟩) T.length cap) ([(b0, srow (tcells eSurf T ++ r) 62)] ++ (tpiece T ++ G))
set_option maxHeartbeats 4000000 in
theorem c_editedTurn (s : DScene) (e : DEdit) (d : Value) (bo b0 cap k : Nat) (T : List (ETri DSurf)) (r : List Value) (G : SPiece) (W : World) (hat : EdAt s k T b0 cap r) (hk : e.Kind = 2 ∨ (6 ≤ e.Kind ∧ e.Kind ≤ 9)) (hi : surfaceIndex s.ss e.Id = (k : Int)) (hd : RInts W d e.buf.data)
    (hH : Holds W (EdIn bo b0 cap s T r G)) (hn : (EdIn bo b0 cap s T r G).keys.Nodup) :
    SYieldsG Try.prog 123 #[.pointer (some ⟨bo, 0, none⟩), vEdit e d] (EdIn bo b0 cap s T r G) (fun u H' F => u = .bool true ∧ EdOut bo (edited s e) H' ∧ F = []) W := by
  rw [edited_turn (by omega) hi]
  have hdf := hd.form
  obtain ⟨da, dc, rfl⟩ := hdf
  have hcap := hat.cap1
  have hkin := hat.kin
  have hlen := hat.len
  have hidx : ∀ w, RS eSurf w (.slice (some ⟨b0, 0, none⟩) T.length cap) s.ss → SYields Try.prog 44 #[vScene s (.slice (some ⟨b0, 0, none⟩) T.length cap), .int .i64 e.Id] (.int .i64 (k : Int)) w := fun w h => by rw [← hi]; exact c_isurfaceIndex s _ _ w h
  have hset := fun (o : Nat) (u : Value) (a' : DSurf) (ho : o < 11) (he : (eSurf.cells (s.ss.getD k default) (T.getD k dT).2.1).set o u = eSurf.cells a' (T.getD k dT).2.1) => tcells_set (r := r) hkin ho (by rw [hat.fst]; exact he)
  refine SYieldsG.mk (s_enterM Try.func123 rfl Try.ntmps123 rfl hH hn ?_)
  refine cc_perm (L' := [[(bo, srow [.int .i64 s.W, .int .i64 s.H, .int .i64 s.Back, .slice (some ⟨b0, 0, none⟩) T.length cap] 26)], [(b0, srow (tcells eSurf T ++ r) 62)], tpiece T ++ G]) (by simp) ?_
  repeat' (first | exact rfl | (apply kO; (first | exact ov_pure rfl | (apply kOBin; (first | exact aBin)) | (apply kOCall; (first | (apply kCallF; (first | exact (ov_call rfl (fun w hw => hidx w (OElems.rs hat.elems (holds_app (hfA hw) (hfA hw))))))) | (apply kCallB; (first | exact aBlt | exact aLenR)))) | (apply kOLoad; (first | exact aLdF | exact aLdR)) | exact ov_fieldAddr rfl | (apply kOIdx; (first | exact (ov_indexAddr rfl rfl (by omega)) | exact aIdx)) | exact aRest | exact aNew | exact (ov_field1 (ft := 37) rfl rfl rfl rfl))) | (refine kN ?_; (first | (refine kStore ?_; (first | (refine s_setR _ rfl rfl gpA rfl (by (try simp only [List.length_set]); rw [hlen]; omega) ?_) | refine s_store1 _ rfl rfl gpA rfl (by rfl) ?_ | refine s_storeS _ rfl rfl gpA rfl rfl (by rfl) ?_ | refine s_storeS _ rfl rfl gpA rfl (ones_img oiA) (by rfl) ?_)) | refine s_boxS rfl rfl (fun b hb => ?_) | refine s_allocS rfl (fun b hb => ?_) | refine s_box1 rfl rfl rfl (fun b hb => ?_) | refine s_alloc1 rfl rfl (fun b hb => ?_) | refine s_buildSlice0 rfl (fun b hb => ?_) | refine s_buildSlice rfl rfl rfl rfl rfl (fun b hb => ?_) | apply s_step)) | (refine kG ?_; (first | refine s_gyes rfl rfl rfl ?_ | refine s_gno rfl rfl rfl rfl rfl ?_ | ((first | refine s_split_d rfl rfl (fun h => ?_) (fun h => ?_) | refine s_split_n rfl rfl (fun h => ?_) (fun h => ?_)) <;> (try (first | contradiction | (exfalso; omega) | (exfalso; (exfalso; omega))))) | refine s_split_nb rfl rfl (fun h => ?_) (fun h => ?_) | refine s_split rfl rfl (fun h => ?_) (fun h => ?_))) | (refine kS ?_; (first | refine h_exec rfl ?_ | refine h_take_nil rfl rfl rfl ?_ | refine h_take_pick rfl rfl rfl ?_ | refine h_nil ?_ | refine h_alt ?_ ?_ | apply h_take)) | (refine kBack ?_; (first | refine h_back_last rfl ?_ | refine h_backN rfl subA ?_)) | refine l_then ?_ | (refine kC ?_; (first | (refine kReg 17 ?_; refine c_regionSubN (SPlan.take 0 (SPlan.take 1 (SPlan.take 2 (SPlan.take 3 (SPlan.take 4 (SPlan.take 5 (SPlan.take 6 (SPlan.take 7 (SPlan.run 8 (SPlan.take 9 (SPlan.take 10 (SPlan.run 11 SPlan.done)))))))))))) none [true, true, false, true] rfl rfl rfl (by decide +kernel) ?_) | (refine kReg 31 ?_; refine c_regionSubN (SPlan.take 0 (SPlan.take 1 (SPlan.take 2 (SPlan.take 3 (SPlan.take 4 (SPlan.take 5 (SPlan.take 6 (SPlan.take 7 (SPlan.run 8 (SPlan.take 9 (SPlan.take 10 (SPlan.run 11 SPlan.done)))))))))))) none [true, true, false, true] rfl rfl rfl (by decide +kernel) ?_) | refine c_seq ?_ | refine c_regionN rfl ?_ | refine c_ret ?_ | (refine kCond ?_; (first | refine c_cond_t rfl ?_ | refine c_cond_f rfl ?_ | ((first | refine c_cond_d rfl (fun h => ?_) (fun h => ?_) | refine c_cond_n rfl (fun h => ?_) (fun h => ?_)) <;> (try (first | contradiction | (exfalso; omega) | (exfalso; (exfalso; omega))))) | refine c_cond_nb rfl (fun h => ?_) (fun h => ?_) | refine c_cond rfl (fun h => ?_) (fun h => ?_))) | refine c_block ?_ | refine c_skip ?_ | refine c_exit ?_ | refine c_regionQN rfl rfl (by decide +kernel) ?_)) | apply s_stepQ | (refine kQG ?_; (first | refine s_gyesQ rfl rfl rfl ?_ | refine s_gnoQ rfl rfl rfl rfl rfl ?_ | ((first | refine s_splitQ_d rfl rfl (fun h => ?_) (fun h => ?_) | refine s_splitQ_n rfl rfl (fun h => ?_) (fun h => ?_)) <;> (try (first | contradiction | (exfalso; omega) | (exfalso; (exfalso; omega))))) | refine s_splitQ_nb rfl rfl (fun h => ?_) (fun h => ?_) | refine s_splitQ rfl rfl (fun h => ?_) (fun h => ?_))) | refine lQ_then ?_ | refine lQ_ends ?_ | (refine kE ?_; (first | refine e_then_r ?_ | refine e_block_r ?_ | refine e_then_n ?_ | refine e_then_x ?_ | refine e_block_n ?_ | refine e_block_x ?_ | refine e_block_y rfl ?_)) | refine l_ends ?_)
  · have ht : touched (s.ss.getD k default) e = { (s.ss.getD k default) with X := e.A, Y := e.B } := by unfold touched; rw [if_pos (by omega)]
    have hq := tcells_set2 (r := r) (o := 1) (o2 := 2) (u := .int .i64 e.A) (u2 := .int .i64 e.B) (a' := { (s.ss.getD k default) with X := e.A, Y := e.B }) hkin (by omega) (by omega) (by rw [hat.fst]; rfl)
    rw [ht]
    refine s_leave1 rfl rfl (fun w hw => ?_)
    have hw2 : SSt _ _ [[(bo, srow _ 26)], [(b0, srow _ 62)], tpiece T ++ G] w := hw.picks (by (repeat' first | exact Picks.nil | exact gp_hd | apply gp_tl | apply Picks.cons); done) (by rfl)
    simp only [Nat.zero_add, Int.toNat_natCast] at hw2
    rw [hq] at hw2
    exact ⟨_, _, [], rfl, ⟨rfl, ⟨_, _, rfl, EdAt.turn hat _ rfl⟩, rfl⟩, SSt_three hw2⟩
  · have ht : touched (s.ss.getD k default) e = { (s.ss.getD k default) with Alpha := e.A } := by unfold touched; rw [if_neg (by omega)]; rw [if_neg (by omega)]; rw [if_pos (by omega)]
    have hq := hset 5 (.int .i64 e.A) { (s.ss.getD k default) with Alpha := e.A } (by omega) rfl
    rw [ht]
    refine s_leave1 rfl rfl (fun w hw => ?_)
    have hw2 : SSt _ _ [[(bo, srow _ 26)], [(b0, srow _ 62)], tpiece T ++ G] w := hw.picks (by (repeat' first | exact Picks.nil | exact gp_hd | apply gp_tl | apply Picks.cons); done) (by rfl)
    simp only [Nat.zero_add, Int.toNat_natCast] at hw2
    rw [hq] at hw2
    exact ⟨_, _, [], rfl, ⟨rfl, ⟨_, _, rfl, EdAt.turn hat _ rfl⟩, rfl⟩, SSt_three hw2⟩
  · have ht : touched (s.ss.getD k default) e = { (s.ss.getD k default) with Orient := e.A } := by unfold touched; rw [if_neg (by omega)]; rw [if_neg (by omega)]; rw [if_neg (by omega)]; rw [if_pos (by omega)]
    have hq := hset 6 (.int .i64 e.A) { (s.ss.getD k default) with Orient := e.A } (by omega) rfl
    rw [ht]
    refine s_leave1 rfl rfl (fun w hw => ?_)
    have hw2 : SSt _ _ [[(bo, srow _ 26)], [(b0, srow _ 62)], tpiece T ++ G] w := hw.picks (by (repeat' first | exact Picks.nil | exact gp_hd | apply gp_tl | apply Picks.cons); done) (by rfl)
    simp only [Nat.zero_add, Int.toNat_natCast] at hw2
    rw [hq] at hw2
    exact ⟨_, _, [], rfl, ⟨rfl, ⟨_, _, rfl, EdAt.turn hat _ rfl⟩, rfl⟩, SSt_three hw2⟩
  · have ht : touched (s.ss.getD k default) e = { (s.ss.getD k default) with W := e.A, H := e.B } := by unfold touched; rw [if_neg (by omega)]; rw [if_neg (by omega)]; rw [if_neg (by omega)]; rw [if_neg (by omega)]; rw [if_pos (by omega)]
    have hq := tcells_set2 (r := r) (o := 3) (o2 := 4) (u := .int .i64 e.A) (u2 := .int .i64 e.B) (a' := { (s.ss.getD k default) with W := e.A, H := e.B }) hkin (by omega) (by omega) (by rw [hat.fst]; rfl)
    rw [ht]
    refine s_leave1 rfl rfl (fun w hw => ?_)
    have hw2 : SSt _ _ [[(bo, srow _ 26)], [(b0, srow _ 62)], tpiece T ++ G] w := hw.picks (by (repeat' first | exact Picks.nil | exact gp_hd | apply gp_tl | apply Picks.cons); done) (by rfl)
    simp only [Nat.zero_add, Int.toNat_natCast] at hw2
    rw [hq] at hw2
    exact ⟨_, _, [], rfl, ⟨rfl, ⟨_, _, rfl, EdAt.turn hat _ rfl⟩, rfl⟩, SSt_three hw2⟩
  · have ht : touched (s.ss.getD k default) e = { (s.ss.getD k default) with Visible := decide (e.A = 1) } := by unfold touched; rw [if_neg (by omega), if_neg (by omega), if_neg (by omega), if_neg (by omega), if_neg (by omega)]
    have hq := hset 7 (.bool (decide (e.A = 1))) { (s.ss.getD k default) with Visible := decide (e.A = 1) } (by omega) rfl
    rw [ht]
    refine s_leave1 rfl rfl (fun w hw => ?_)
    have hw2 : SSt _ _ [[(bo, srow _ 26)], [(b0, srow _ 62)], tpiece T ++ G] w := hw.picks (by (repeat' first | exact Picks.nil | exact gp_hd | apply gp_tl | apply Picks.cons); done) (by rfl)
    simp only [Nat.zero_add, Int.toNat_natCast] at hw2
    rw [hq] at hw2
    exact ⟨_, _, [], rfl, ⟨rfl, ⟨_, _, rfl, EdAt.turn hat _ rfl⟩, rfl⟩, SSt_three hw2⟩
end Go.Proofs.Ytfmjeakcfmmkfaa
