/-
  Texts that the law stands on, part 4: H2, H5, HA, KG, K13, L1, L2, M6, K14, K15, L3, L8, L9, HB.
-/
import Derived.Test.YtakijgpoaeggnaaGreatSx
import Derived.Test.YtakijgpoaeggnaaGreatPresentB3
/-
  Contracts: chains of buffers that the laws mark, and what they hold then.
-/
set_option linter.unusedVariables false
namespace Go.Proofs.YtakijgpoaeggnaaGreat
open Go Sx
attribute [local irreducible] Exit.then Exit.inBlock bodyPost OVs
section
variable {α : Type} {d : ETri α}
theorem drop_getG {T : List (ETri α)} {j : Nat} (h : j < T.length) : T.drop j = T.getD j d :: T.drop (j + 1) := by
  rw [List.drop_eq_getElem_cons h, List.getD_eq_getElem?_getD, List.getElem?_eq_getElem h]; rfl
theorem getG_mem {T : List (ETri α)} {j : Nat} (h : j < T.length) : T.getD j d ∈ T := by
  rw [List.getD_eq_getElem?_getD, List.getElem?_eq_getElem h]; exact List.getElem_mem h
theorem getG_fst {T : List (ETri α)} {j : Nat} : (T.getD j d).1 = (T.map (·.1)).getD j d.1 := by
  rw [List.getD_eq_getElem?_getD, List.getD_eq_getElem?_getD, List.getElem?_map]
  cases T[j]? <;> rfl
end
abbrev dI : ETri DImg := (DImg.zero, undef, [])
def kI (l : List DImg) (k : Int) (i : Nat) : Int := k + 2 * (i : Int) + (sumTo (fun i => (l.getD i DImg.zero).data.length) i : Nat)
theorem kI_zero (l : List DImg) (k : Int) : kI l k 0 = k := by simp [kI, sumTo]
theorem kI_succ (l : List DImg) (k : Int) (i : Nat) : kI l k (i + 1) = kI l k i + 2 + ((l.getD i DImg.zero).data.length : Nat) := by
  have : sumTo (fun i => (l.getD i DImg.zero).data.length) (i + 1) = sumTo (fun i => (l.getD i DImg.zero).data.length) i + (l.getD i DImg.zero).data.length := rfl
  unfold kI; rw [this]; push_cast; omega
theorem kI_end (l : List DImg) (k : Int) : kI l k l.length = k + l.length + imgsLen l := by
  unfold kI imgsLen; push_cast; omega
theorem kI_bd {l : List DImg} {k : Int} {i : Nat} (h : i ≤ l.length) : k ≤ kI l k i ∧ kI l k i ≤ kI l k l.length := by
  have := sumTo_mono (fun i => (l.getD i DImg.zero).data.length) h
  unfold kI; omega
def markImg' (s : DImg) (k : Int) : DImg := ⟨k, k + 1, iota (k + 2) s.data.length⟩
def markImgs (l : List DImg) (k : Int) : List DImg := (List.range l.length).map (fun i => markImg' (l.getD i DImg.zero) (kI l k i))
theorem markImgs_length (l : List DImg) (k : Int) : (markImgs l k).length = l.length := by simp [markImgs]
theorem markImgs_get (l : List DImg) (k : Int) {i : Nat} (h : i < l.length) : (markImgs l k).getD i DImg.zero = markImg' (l.getD i DImg.zero) (kI l k i) := by
  simp [markImgs, List.getD_eq_getElem?_getD, h]
theorem markImgs_take (l : List DImg) (k : Int) {i : Nat} (h : i < l.length) : (markImgs l k).take (i + 1) = (markImgs l k).take i ++ [markImg' (l.getD i DImg.zero) (kI l k i)] := by
  rw [take_getD DImg.zero (by rw [markImgs_length]; exact h), markImgs_get l k h]
theorem set2' {P R : List Value} {a0 a1 b0 b1 : Value} {p : Nat} (hp : P.length = p) : ((P ++ (a0 :: a1 :: R)).set p b0).set (p + 1) b1 = P ++ (b0 :: b1 :: R) := by
  subst hp
  rw [List.set_append_right _ _ (Nat.le_refl _), List.set_append_right _ _ (by omega)]
  rw [Nat.sub_self, show P.length + 1 - P.length = 1 by omega]
  rfl
theorem img_cells_at {A : List Value} {R : List Value} {s : DImg} {d : Value} {p : Nat} (hp : A.length = p) : keepsD (p + 2) d (A ++ (eImg.cells s d ++ R)) := by
  unfold keepsD
  rw [List.getElem?_append_right (by omega), show p + 2 - A.length = 2 by omega]; rfl
set_option maxHeartbeats 4000000 in
theorem c_markImgs (v : Value) (l : List DImg) (H : SPiece) (k : Int) (W : World) (hv : OElems eImg 49 v l H) (hH : Holds W H) (hn : H.keys.Nodup) (hk : 0 ≤ k ∧ k ≤ 1000000000) (hl : imgsLen l ≤ 1048576) :
    SYieldsG Tryz.prog 74 #[v, .int .i64 k] H (fun u H' F => u = .int .i64 (kI l k l.length) ∧ OElems eImg 49 v (markImgs l k) H' ∧ F = []) W := by
  obtain ⟨T, H0, G, hT, h1, h2, rfl⟩ := hv.tri
  have hTl : T.length = l.length := by rw [← hT, List.length_map]
  have hln : l.length ≤ imgsLen l := by unfold imgsLen; omega
  have hke := kI_end l k
  have hkb := fun j (h : j ≤ l.length) => kI_bd (k := k) h
  have hks := kI_succ l k
  have hcl := fun T' => tcells_length eImg T'
  rcases OVec.inv h1 with ⟨rfl, hn0, rfl⟩ | ⟨b0, cap, r, rfl, rfl, hcap, hnc, hcm⟩
  · have hl0 : l = [] := List.eq_nil_of_length_eq_zero (by omega)
    subst hl0
    refine SYieldsG.mk (s_enterM Tryz.func74 rfl Tryz.ntmps74 rfl hH hn ?_)
    repeat' (first | exact rfl | (apply kO; (first | exact ov_pure rfl | (apply kOBin; (first | exact aBin)) | (apply kOCall; (first | (apply kCallB; (first | exact aBlt | exact aLenR)))) | (apply kOLoad; (first | exact aLdF | exact aLdR)) | exact ov_fieldAddr rfl | (apply kOIdx; (first | exact aIdx)) | exact aRest | exact aNew | exact (ov_field1 (ft := 31) rfl rfl rfl rfl))) | (refine kN ?_; (first | (refine kStore ?_; (first | refine s_store1 _ rfl rfl gpA rfl (by rfl) ?_ | refine s_storeS _ rfl rfl gpA rfl rfl (by rfl) ?_ | refine s_storeS _ rfl rfl gpA rfl (ones_img oiA) (by rfl) ?_)) | refine s_boxS rfl rfl (fun b hb => ?_) | refine s_allocS rfl (fun b hb => ?_) | refine s_box1 rfl rfl rfl (fun b hb => ?_) | refine s_alloc1 rfl rfl (fun b hb => ?_) | refine s_buildSlice0 rfl (fun b hb => ?_) | refine s_buildSlice rfl rfl rfl rfl rfl (fun b hb => ?_) | apply s_step)) | (refine kG ?_; (first | refine s_gyes rfl rfl rfl ?_ | refine s_gno rfl rfl rfl rfl rfl ?_ | ((first | refine s_split_d rfl rfl (fun h => ?_) (fun h => ?_) | refine s_split_n rfl rfl (fun h => ?_) (fun h => ?_)) <;> (try (first | contradiction | (exfalso; omega)))) | refine s_split_nb rfl rfl (fun h => ?_) (fun h => ?_) | refine s_split rfl rfl (fun h => ?_) (fun h => ?_))) | refine l_then ?_ | (refine kC ?_; (first | (refine c_loopV (ι := Nat) (fun j => j = 0) (fun j => [(5, .int .i64 (j : Int)), (1, .int .i64 k)]) (fun j => [_]) (fun j => 0) 0 rfl rfl (fun _ => rfl) ⟨rfl, rfl, trivial⟩ (fun w hw => hw) (fun j hj => ?_)) | refine c_seq ?_ | refine c_regionN rfl ?_ | refine c_ret ?_ | (refine kCond ?_; (first | refine c_cond_t rfl ?_ | refine c_cond_f rfl ?_ | ((first | refine c_cond_d rfl (fun h => ?_) (fun h => ?_) | refine c_cond_n rfl (fun h => ?_) (fun h => ?_)) <;> (try (first | contradiction | (exfalso; omega)))) | refine c_cond_nb rfl (fun h => ?_) (fun h => ?_) | refine c_cond rfl (fun h => ?_) (fun h => ?_))) | refine c_block ?_ | refine c_skip ?_ | refine c_exit ?_ | refine c_regionQN rfl rfl (by decide +kernel) ?_)) | apply s_stepQ | (refine kQG ?_; (first | refine s_gyesQ rfl rfl rfl ?_ | refine s_gnoQ rfl rfl rfl rfl rfl ?_ | ((first | refine s_splitQ_d rfl rfl (fun h => ?_) (fun h => ?_) | refine s_splitQ_n rfl rfl (fun h => ?_) (fun h => ?_)) <;> (try (first | contradiction | (exfalso; omega)))) | refine s_splitQ_nb rfl rfl (fun h => ?_) (fun h => ?_) | refine s_splitQ rfl rfl (fun h => ?_) (fun h => ?_))) | refine lQ_then ?_ | refine lQ_ends ?_ | (refine kE ?_; (first | refine e_then_r ?_ | refine e_block_r ?_ | refine e_then_n ?_ | refine e_then_x ?_ | refine e_block_n ?_ | refine e_block_x ?_ | refine e_block_y rfl ?_)) | refine l_ends ?_)
    all_goals
      exact s_leave1 rfl rfl (fun w hw => ⟨_, [], [], rfl, ⟨by rw [hke]; exact vint_to (by simp [imgsLen, sumTo]), OElems.nil, rfl⟩, hw.gone⟩)
  · rw [hTl] at hnc ⊢
    refine SYieldsG.mk (s_enterM Tryz.func74 rfl Tryz.ntmps74 rfl hH hn ?_)
    refine c_regroup (L' := [[(b0, srow (tcells eImg ([] ++ T.drop 0) ++ r) 49)], tpiece ([] : List (ETri DImg)), tpiece (T.drop 0), G]) (fun w hw => hw.perm (by rw [List.drop_zero, List.nil_append]; simp [tpiece])) ?_
    repeat' (first | exact rfl | (apply kO; (first | exact ov_pure rfl | (apply kOBin; (first | exact aBin | exact (ov_add rfl rfl (by have q1 := hkb j.1 (by omega); have q2 := hkb (j.1 + 1) (by omega); have q3 := hks j.1; omega)))) | (apply kOCall; (first | (apply kCallB; (first | exact aBlt | exact aLenR)))) | (apply kOLoad; (first | exact (ov_load rfl rfl (getL_flat (i := 0) rfl (List.mem_singleton.2 rfl)) (keepsD_get (by repeat' first | exact hkeep (by omega) | apply keepsD_set | omega) (by omega))) | exact aLdF | exact aLdR)) | exact ov_fieldAddr rfl | (apply kOIdx; (first | exact (ov_indexAddr rfl rfl (by omega)) | exact aIdx)) | exact aRest | exact aNew | exact (ov_field1 (ft := 31) rfl rfl rfl rfl))) | (refine kN ?_; (first | (refine kCall ?_; (first | (refine kWFn 75 ?_; (refine w_split 2 (A := (T.getD j.1 dI).2.2) (B := tpiece (T.drop (j.1 + 1))) (by show some (tpiece (T.drop j.1)) = _; rw [drop_getG (d := dI) (by omega), tpiece_cons]) ?_; refine s_markI _ (l := (l.getD j.1 DImg.zero).data) rfl (show OInts 3 (T.getD j.1 dI).2.1 (l.getD j.1 DImg.zero).data (T.getD j.1 dI).2.2 from hown (by omega)) gpA (by have q1 := hkb j.1 (by omega); have q2 := hkb (j.1 + 1) (by omega); have q3 := hks j.1; omega) rfl (fun H' hu => ?_))) | apply s_step)) | (refine kStore ?_; (first | (refine s_setR 0 rfl rfl rfl rfl (by (try simp only [List.length_set]); omega) ?_) | refine s_store1 _ rfl rfl gpA rfl (by rfl) ?_ | refine s_storeS _ rfl rfl gpA rfl rfl (by rfl) ?_ | refine s_storeS _ rfl rfl gpA rfl (ones_img oiA) (by rfl) ?_)) | refine s_boxS rfl rfl (fun b hb => ?_) | refine s_allocS rfl (fun b hb => ?_) | refine s_box1 rfl rfl rfl (fun b hb => ?_) | refine s_alloc1 rfl rfl (fun b hb => ?_) | refine s_buildSlice0 rfl (fun b hb => ?_) | refine s_buildSlice rfl rfl rfl rfl rfl (fun b hb => ?_) | apply s_step)) | (refine kG ?_; (first | refine s_gyes rfl rfl rfl ?_ | refine s_gno rfl rfl rfl rfl rfl ?_ | ((first | refine s_split_d rfl rfl (fun h => ?_) (fun h => ?_) | refine s_split_n rfl rfl (fun h => ?_) (fun h => ?_)) <;> (try (first | contradiction | (exfalso; omega)))) | refine s_split_nb rfl rfl (fun h => ?_) (fun h => ?_) | refine s_split rfl rfl (fun h => ?_) (fun h => ?_))) | refine l_then ?_ | (refine kC ?_; (first | (refine c_loopV (ι := Nat × List (ETri DImg)) (fun j => j.1 ≤ l.length ∧ j.2.map (·.1) = (markImgs l k).take j.1 ∧ (∀ t ∈ j.2, eImg.own t.2.1 t.1 t.2.2)) (fun j => [(5, .int .i64 (j.1 : Int)), (1, .int .i64 (kI l k j.1))]) (fun j => [[(b0, srow (tcells eImg (j.2 ++ T.drop j.1) ++ r) 49)], tpiece j.2, tpiece (T.drop j.1), G]) (fun j => l.length - j.1) (0, []) ⟨by dsimp only; omega, by simp, fun t ht => by cases ht⟩ rfl (fun _ => rfl) ⟨rfl, slook_to rfl (vint_to (kI_zero l k).symm), trivial⟩ (fun w hw => hw) (fun j hj => ?_); obtain ⟨hj1, hj2, hj3⟩ := hj; have hjl : j.2.length = j.1 := (by have := congrArg List.length hj2; rw [List.length_map, List.length_take, markImgs_length] at this; omega); have hlen : (tcells eImg (j.2 ++ T.drop j.1) ++ r).length = cap * 3 := (by rw [List.length_append, hcl] at hcap ⊢; rw [List.length_append, List.length_drop, hjl, hTl]; rw [hTl] at hcap; have e1 : j.1 + (l.length - j.1) = l.length := (by omega); rw [e1]; exact hcap); have hown := (fun (h : j.1 < T.length) => (show OInts 3 (T.getD j.1 dI).2.1 (l.getD j.1 DImg.zero).data (T.getD j.1 dI).2.2 from by have e := h2 _ (getG_mem (d := dI) h); have e2 := getG_fst (d := dI) (T := T) (j := j.1); rw [hT] at e2; rw [← e2]; exact e)); have hkeep := (fun (h : j.1 < T.length) => (show keepsD (j.1 * 3 + 2) (T.getD j.1 dI).2.1 (tcells eImg (j.2 ++ T.drop j.1) ++ r) from by rw [drop_getG (d := dI) h, tcells_append, tcells_cons, List.append_assoc, List.append_assoc]; exact img_cells_at (by rw [hcl, hjl]; rfl)))) | refine c_seq ?_ | refine c_regionN rfl ?_ | refine c_ret ?_ | (refine kCond ?_; (first | refine c_cond_t rfl ?_ | refine c_cond_f rfl ?_ | ((first | refine c_cond_d rfl (fun h => ?_) (fun h => ?_) | refine c_cond_n rfl (fun h => ?_) (fun h => ?_)) <;> (try (first | contradiction | (exfalso; omega)))) | refine c_cond_nb rfl (fun h => ?_) (fun h => ?_) | refine c_cond rfl (fun h => ?_) (fun h => ?_))) | refine c_block ?_ | refine c_skip ?_ | refine c_exit ?_ | refine c_regionQN rfl rfl (by decide +kernel) ?_)) | apply s_stepQ | (refine kQG ?_; (first | refine s_gyesQ rfl rfl rfl ?_ | refine s_gnoQ rfl rfl rfl rfl rfl ?_ | ((first | refine s_splitQ_d rfl rfl (fun h => ?_) (fun h => ?_) | refine s_splitQ_n rfl rfl (fun h => ?_) (fun h => ?_)) <;> (try (first | contradiction | (exfalso; omega)))) | refine s_splitQ_nb rfl rfl (fun h => ?_) (fun h => ?_) | refine s_splitQ rfl rfl (fun h => ?_) (fun h => ?_))) | refine lQ_then ?_ | refine lQ_ends ?_ | (refine kE ?_; (first | refine e_then_r ?_ | refine e_block_r ?_ | refine e_then_n ?_ | refine e_then_x ?_ | refine e_block_n ?_ | refine e_block_x ?_ | refine e_block_y rfl ?_)) | refine l_ends ?_)
    · have hjT : j.1 < T.length := by omega
      have e1 : (T.getD j.1 dI).1 = l.getD j.1 DImg.zero := by rw [getG_fst, hT]
      have ecat : tcells eImg (j.2 ++ T.drop j.1) ++ r = tcells eImg j.2 ++ (.int .i64 (l.getD j.1 DImg.zero).W :: .int .i64 (l.getD j.1 DImg.zero).H :: ((T.getD j.1 dI).2.1 :: (tcells eImg (T.drop (j.1 + 1)) ++ r))) := by
        rw [drop_getG (d := dI) hjT, tcells_append, tcells_cons, List.append_assoc, List.append_assoc, e1]; rfl
      have hp : (tcells eImg j.2).length = j.1 * 3 := by rw [hcl, hjl]; rfl
      refine e_round (j.1 + 1, j.2 ++ [(markImg' (l.getD j.1 DImg.zero) (kI l k j.1), (T.getD j.1 dI).2.1, H')]) ⟨by dsimp only; omega, by dsimp only; rw [List.map_append, hj2, markImgs_take l k (by omega)]; rfl, fun t ht => ?_⟩ ⟨slook_to rfl (vint_to (by push_cast; rfl)), slook_to rfl (vint_to (by rw [hks]; omega)), (by repeat' first | exact trivial | refine ⟨rfl, ?_⟩)⟩ (fun w hw => ?_) (by dsimp only; omega)
      · rcases List.mem_append.1 ht with ht | ht
        · exact hj3 t ht
        · rw [List.mem_singleton] at ht
          subst ht
          rw [show kI l k j.1 + 1 + 1 = kI l k j.1 + 2 by omega] at hu
          exact hu
      · have hw2 : SSt _ _ [[], tpiece (T.drop (j.1 + 1)), [(b0, srow _ 49)], tpiece j.2, H', G] w := hw
        rw [ecat] at hw2
        simp only [Nat.zero_add, Int.toNat_natCast, Nat.add_zero] at hw2
        rw [set2' hp] at hw2
        have ecat2 : tcells eImg ((j.2 ++ [(markImg' (l.getD j.1 DImg.zero) (kI l k j.1), (T.getD j.1 dI).2.1, H')]) ++ T.drop (j.1 + 1)) ++ r = tcells eImg j.2 ++ (.int .i64 (kI l k j.1) :: .int .i64 (kI l k j.1 + 1) :: ((T.getD j.1 dI).2.1 :: (tcells eImg (T.drop (j.1 + 1)) ++ r))) := by
          rw [tcells_append, tcells_append, tcells_one, List.append_assoc, List.append_assoc]
          rfl
        dsimp only
        rw [ecat2, tpiece_append, tpiece_one]
        refine hw2.perm ?_
        simp only [List.flatten_cons, List.flatten_nil, List.append_nil, List.nil_append]
        refine (List.perm_append_comm_assoc ..).trans (List.Perm.append_left _ ?_)
        refine (List.perm_append_comm_assoc ..).trans ?_
        rw [List.append_assoc]
        refine List.Perm.append_left _ ?_
        exact List.perm_append_comm_assoc ..
    · have e : j.1 = l.length := by omega
      have hd0 : T.drop j.1 = [] := List.drop_of_length_le (by omega)
      rw [e, List.take_of_length_le (by rw [markImgs_length]; omega)] at hj2
      rw [hd0, List.append_nil] at hlen
      refine s_leave1 rfl rfl (fun w hw => ⟨_, [(b0, srow (tcells eImg j.2 ++ r) 49)] ++ (tpiece j.2 ++ G), [], rfl, ⟨by rw [e], ?_, rfl⟩, ?_⟩)
      · have o := OElems.ofTri (e := eImg) (U := 49) (T := j.2) (G := G) (OVec.blk (k := 3) (T := 49) b0 j.2.length cap (tcells eImg j.2) r (hcl _) hlen (by omega) hcm) hj3
        rw [hj2, hjl, e] at o
        exact o
      · have hw2 : SSt _ _ [[(b0, srow (tcells eImg (j.2 ++ T.drop j.1) ++ r) 49)], tpiece j.2, tpiece (T.drop j.1), G] w := hw
        rw [hd0, List.append_nil] at hw2
        refine hw2.perm ?_
        simp [tpiece]
set_option maxHeartbeats 2000000 in
theorem c_heldImgs (v : Value) (l : List DImg) (k : Int) (W : World) (hv : RS eImg W v (markImgs l k)) (hk : 0 ≤ k ∧ k ≤ 1000000000) (hl : imgsLen l ≤ 1048576) :
    SYields Tryz.prog 84 #[v, .int .i64 k] (.int .i64 (kI l k l.length)) W := by
  obtain ⟨ds, hv⟩ := hv
  have hlm := markImgs_length l k
  have hln : l.length ≤ imgsLen l := by unfold imgsLen; omega
  have hke := kI_end l k
  have hkb := fun j (h : j ≤ l.length) => kI_bd (k := k) h
  have hks := kI_succ l k
  have hlr := hv.row.len
  rw [hlm] at hlr
  have hrow : RRow W v 3 l.length (fun i => [.int .i64 (kI l k i), .int .i64 (kI l k i + 1), ds i]) :=
    RRow.congr hv.row hlm.symm (fun i hi => by rw [eImg_dflt, markImgs_get l k (by rw [hlm] at hi; exact hi)]; rfl)
  have hrd : ∀ i, i < l.length → RInts W (ds i) (iota (kI l k i + 2) (l.getD i DImg.zero).data.length) := fun i hi => by
    have := hv.rd i (by rw [hlm]; exact hi)
    rw [eImg_dflt, markImgs_get l k hi] at this; exact this
  have hhm := fun (i : Nat) => heldI_mark (kI l k i + 2) (l.getD i DImg.zero).data.length
  (first | apply SYields.mk | apply SYieldsF.mk | skip); refine s_enter Tryz.func84 rfl Tryz.ntmps84 rfl ?_
  repeat' (first | exact rfl | (apply kO; (first | exact ov_pure rfl | (apply kOBin; (first | exact aBin | exact (ov_add rfl rfl (by have q1 := hkb j (by omega); have q2 := hkb (j + 1) (by omega); have q3 := hks j; omega)))) | (apply kOCall; (first | (apply kCallF; (first | exact (ov_call rfl (fun w hw => c_heldIntS _ _ _ w (RInts.keep (hrd j (by omega)) (hw.cells rfl)) (by rw [iota_length]; have q1 := hkb j (by omega); have q2 := hkb (j + 1) (by omega); have q3 := hks j; omega))))) | (apply kCallB; (first | exact aBlt | exact (ov_lenR (fun w hw => hrow.keep (hw.cells rfl)) rfl) | exact aLenR)))) | (apply kOLoad; (first | exact (ov_ldR0 (fun w hw => hrow.keep (hw.cells rfl)) rfl rfl (by omega) rfl) | exact (ov_ldR (fun w hw => hrow.keep (hw.cells rfl)) rfl rfl (by omega) rfl) | exact (ov_ldRN (fun w hw => hrow.keep (hw.cells rfl)) rfl rfl (by omega) rfl) | exact aLdF | exact aLdR)) | exact ov_fieldAddr rfl | (apply kOIdx; (first | exact (ov_idxR (fun w hw => hrow.keep (hw.cells rfl)) rfl rfl (by omega)) | exact aIdx)) | exact aRest | exact aNew | exact (ov_field1 (ft := 31) rfl rfl rfl rfl))) | (refine kN ?_; (first | (refine kStore ?_; (first | refine s_store1 _ rfl rfl gpA rfl (by rfl) ?_ | refine s_storeS _ rfl rfl gpA rfl rfl (by rfl) ?_ | refine s_storeS _ rfl rfl gpA rfl (ones_img oiA) (by rfl) ?_)) | refine s_boxS rfl rfl (fun b hb => ?_) | refine s_allocS rfl (fun b hb => ?_) | refine s_box1 rfl rfl rfl (fun b hb => ?_) | refine s_alloc1 rfl rfl (fun b hb => ?_) | refine s_buildSlice0 rfl (fun b hb => ?_) | refine s_buildSlice rfl rfl rfl rfl rfl (fun b hb => ?_) | apply s_step)) | (refine kG ?_; (first | refine s_gyes rfl rfl rfl ?_ | refine s_gno rfl rfl rfl rfl rfl ?_ | ((first | refine s_split_d rfl rfl (fun h => ?_) (fun h => ?_) | refine s_split_n rfl rfl (fun h => ?_) (fun h => ?_)) <;> (try (first | contradiction | (exfalso; omega)))) | refine s_split_nb rfl rfl (fun h => ?_) (fun h => ?_) | refine s_split rfl rfl (fun h => ?_) (fun h => ?_))) | refine l_then ?_ | (refine kC ?_; (first | (refine c_loopV (ι := Nat) (fun j => j ≤ l.length) (fun j => [(1, .int .i64 (kI l k j)), (5, .int .i64 (j : Int))]) (fun _ => []) (fun j => l.length - j) 0 (by omega) rfl (fun _ => rfl) ⟨slook_to rfl (vint_to (kI_zero l k).symm), rfl, trivial⟩ (fun w hw => hw) (fun j hj => ?_)) | refine c_seq ?_ | refine c_regionN rfl ?_ | refine c_ret ?_ | (refine kCond ?_; (first | refine c_cond_t rfl ?_ | refine c_cond_f rfl ?_ | ((first | refine c_cond_d rfl (fun h => ?_) (fun h => ?_) | refine c_cond_n rfl (fun h => ?_) (fun h => ?_)) <;> (try (first | contradiction | (exfalso; omega)))) | refine c_cond_nb rfl (fun h => ?_) (fun h => ?_) | refine c_cond rfl (fun h => ?_) (fun h => ?_))) | refine c_block ?_ | refine c_skip ?_ | refine c_exit ?_ | refine c_regionQN rfl rfl (by decide +kernel) ?_)) | apply s_stepQ | (refine kQG ?_; (first | refine s_gyesQ rfl rfl rfl ?_ | refine s_gnoQ rfl rfl rfl rfl rfl ?_ | ((first | refine s_splitQ_d rfl rfl (fun h => ?_) (fun h => ?_) | refine s_splitQ_n rfl rfl (fun h => ?_) (fun h => ?_)) <;> (try (first | contradiction | (exfalso; omega)))) | refine s_splitQ_nb rfl rfl (fun h => ?_) (fun h => ?_) | refine s_splitQ rfl rfl (fun h => ?_) (fun h => ?_))) | refine lQ_then ?_ | refine lQ_ends ?_ | (refine kE ?_; (first | refine e_then_r ?_ | refine e_block_r ?_ | refine e_then_n ?_ | refine e_then_x ?_ | refine e_block_n ?_ | refine e_block_x ?_ | refine e_block_y rfl ?_)) | refine l_ends ?_)
  all_goals try simp only [Int.toNat_natCast] at *
  all_goals try (exfalso; omega)
  · exfalso
    rw [show kI l k j + 1 + 1 = kI l k j + 2 by omega, hhm] at h
    have := hkb j hj
    omega
  · exact e_round (j + 1) (by omega) ⟨slook_to rfl (vint_to (by rw [show kI l k j + 1 + 1 = kI l k j + 2 by omega, hhm, hks])), rfl, (by repeat' first | exact trivial | refine ⟨rfl, ?_⟩)⟩ (fun w hw => hw) (by omega)
  · exact s_leave1 rfl rfl (fun w hw => ⟨ret_int (by rw [show j = l.length by omega]), hw.below⟩)
abbrev dR : ETri (List DRect) := ([], undef, [])
def kR (l : List (List DRect)) (k : Int) (i : Nat) : Int := k + 4 * (sumTo (fun i => (l.getD i []).length) i : Nat)
theorem kR_zero (l : List (List DRect)) (k : Int) : kR l k 0 = k := by simp [kR, sumTo]
theorem kR_succ (l : List (List DRect)) (k : Int) (i : Nat) : kR l k (i + 1) = kR l k i + 4 * ((l.getD i []).length : Nat) := by
  have : sumTo (fun i => (l.getD i []).length) (i + 1) = sumTo (fun i => (l.getD i []).length) i + (l.getD i []).length := rfl
  unfold kR; rw [this]; push_cast; omega
theorem kR_end (l : List (List DRect)) (k : Int) : k ≤ kR l k l.length ∧ kR l k l.length ≤ k + 4 * regsLen l := by
  unfold kR regsLen; omega
theorem kR_bd {l : List (List DRect)} {k : Int} {i : Nat} (h : i ≤ l.length) : k ≤ kR l k i ∧ kR l k i ≤ kR l k l.length := by
  have := sumTo_mono (fun i => (l.getD i []).length) h
  unfold kR; omega
def markRegs (l : List (List DRect)) (k : Int) : List (List DRect) := (List.range l.length).map (fun i => iotaR (kR l k i) (l.getD i []).length)
theorem markRegs_length (l : List (List DRect)) (k : Int) : (markRegs l k).length = l.length := by simp [markRegs]
theorem markRegs_get (l : List (List DRect)) (k : Int) {i : Nat} (h : i < l.length) : (markRegs l k).getD i [] = iotaR (kR l k i) (l.getD i []).length := by
  simp [markRegs, List.getD_eq_getElem?_getD, h]
theorem markRegs_take (l : List (List DRect)) (k : Int) {i : Nat} (h : i < l.length) : (markRegs l k).take (i + 1) = (markRegs l k).take i ++ [iotaR (kR l k i) (l.getD i []).length] := by
  rw [take_getD [] (by rw [markRegs_length]; exact h), markRegs_get l k h]
theorem reg_cells_at {A : List Value} {R : List Value} {s : List DRect} {d : Value} {p : Nat} (hp : A.length = p) : keepsD p d (A ++ (eReg.cells s d ++ R)) := by
  unfold keepsD
  rw [List.getElem?_append_right (by omega), show p - A.length = 0 by omega]; rfl
section
variable {n : Nat} {lo : SMut} {s : World} {ops : Array Oper} {Q : Exit → Act → World → Prop} {E : SEnv} {L : SHeap} {dd : Nat} {ty : TypeId} {pos : String} {after : Array Edge} {rest : List Oper}
theorem s_markRects (i : Nat) {v : Value} {l : List DRect} {k : Int} {H : SPiece} {args : List Operand} {ts : Array TypeId} (ha : svals E args = some [v, .int .i64 k]) (hv : ORects v l H) (hL : getL L i = some H) (hk : 0 ≤ k ∧ k + 4 * l.length ≤ 4611686018427387904) (hd : Nat.blt dd n = true)
    (c : ∀ H', ORects v (iotaR k l.length) H' → WPL Tryz.prog n lo s ops Q rest ((dd, .int .i64 (k + 4 * l.length)) :: E) ([] :: setL L i H')) :
    WPL Tryz.prog n lo s ops Q (⟨some dd, .call { callee := .value (.func 78), args := args.toArray, argTypes := ts }, ty, pos, after, none⟩ :: rest) E L :=
  s_callG i (fun u H' F => u = .int .i64 (k + 4 * l.length) ∧ ORects v (iotaR k l.length) H' ∧ F = []) ha hL (fun w hw hh hn => c_markRectS v l H k w hv hh hn hk) hd (fun v' H' F hu => by obtain ⟨rfl, hu, rfl⟩ := hu; exact c H' hu)
end
set_option maxHeartbeats 4000000 in
theorem c_markRegs (v : Value) (l : List (List DRect)) (H : SPiece) (k : Int) (W : World) (hv : OElems eReg 43 v l H) (hH : Holds W H) (hn : H.keys.Nodup) (hk : 0 ≤ k ∧ k ≤ 1000000000) (hl : regsLen l ≤ 1048576) :
    SYieldsG Tryz.prog 76 #[v, .int .i64 k] H (fun u H' F => u = .int .i64 (kR l k l.length) ∧ OElems eReg 43 v (markRegs l k) H' ∧ F = []) W := by
  obtain ⟨T, H0, G, hT, h1, h2, rfl⟩ := hv.tri
  have hTl : T.length = l.length := by rw [← hT, List.length_map]
  have hln : l.length ≤ regsLen l := by unfold regsLen; omega
  have hke := kR_end l k
  have hkb := fun j (h : j ≤ l.length) => kR_bd (k := k) h
  have hks := kR_succ l k
  have hcl := fun T' => tcells_length eReg T'
  rcases OVec.inv h1 with ⟨rfl, hn0, rfl⟩ | ⟨b0, cap, r, rfl, rfl, hcap, hnc, hcm⟩
  · have hl0 : l = [] := List.eq_nil_of_length_eq_zero (by omega)
    subst hl0
    refine SYieldsG.mk (s_enterM Tryz.func76 rfl Tryz.ntmps76 rfl hH hn ?_)
    repeat' (first | exact rfl | (apply kO; (first | exact ov_pure rfl | (apply kOBin; (first | exact aBin)) | (apply kOCall; (first | (apply kCallB; (first | exact aBlt | exact aLenR)))) | (apply kOLoad; (first | exact aLdF | exact aLdR)) | exact ov_fieldAddr rfl | (apply kOIdx; (first | exact aIdx)) | exact aRest | exact aNew | exact (ov_field1 (ft := 31) rfl rfl rfl rfl))) | (refine kN ?_; (first | (refine kStore ?_; (first | refine s_store1 _ rfl rfl gpA rfl (by rfl) ?_ | refine s_storeS _ rfl rfl gpA rfl rfl (by rfl) ?_ | refine s_storeS _ rfl rfl gpA rfl (ones_img oiA) (by rfl) ?_)) | refine s_boxS rfl rfl (fun b hb => ?_) | refine s_allocS rfl (fun b hb => ?_) | refine s_box1 rfl rfl rfl (fun b hb => ?_) | refine s_alloc1 rfl rfl (fun b hb => ?_) | refine s_buildSlice0 rfl (fun b hb => ?_) | refine s_buildSlice rfl rfl rfl rfl rfl (fun b hb => ?_) | apply s_step)) | (refine kG ?_; (first | refine s_gyes rfl rfl rfl ?_ | refine s_gno rfl rfl rfl rfl rfl ?_ | ((first | refine s_split_d rfl rfl (fun h => ?_) (fun h => ?_) | refine s_split_n rfl rfl (fun h => ?_) (fun h => ?_)) <;> (try (first | contradiction | (exfalso; omega)))) | refine s_split_nb rfl rfl (fun h => ?_) (fun h => ?_) | refine s_split rfl rfl (fun h => ?_) (fun h => ?_))) | refine l_then ?_ | (refine kC ?_; (first | (refine c_loopV (ι := Nat) (fun j => j = 0) (fun j => [(5, .int .i64 (j : Int)), (1, .int .i64 k)]) (fun j => [_]) (fun j => 0) 0 rfl rfl (fun _ => rfl) ⟨rfl, rfl, trivial⟩ (fun w hw => hw) (fun j hj => ?_)) | refine c_seq ?_ | refine c_regionN rfl ?_ | refine c_ret ?_ | (refine kCond ?_; (first | refine c_cond_t rfl ?_ | refine c_cond_f rfl ?_ | ((first | refine c_cond_d rfl (fun h => ?_) (fun h => ?_) | refine c_cond_n rfl (fun h => ?_) (fun h => ?_)) <;> (try (first | contradiction | (exfalso; omega)))) | refine c_cond_nb rfl (fun h => ?_) (fun h => ?_) | refine c_cond rfl (fun h => ?_) (fun h => ?_))) | refine c_block ?_ | refine c_skip ?_ | refine c_exit ?_ | refine c_regionQN rfl rfl (by decide +kernel) ?_)) | apply s_stepQ | (refine kQG ?_; (first | refine s_gyesQ rfl rfl rfl ?_ | refine s_gnoQ rfl rfl rfl rfl rfl ?_ | ((first | refine s_splitQ_d rfl rfl (fun h => ?_) (fun h => ?_) | refine s_splitQ_n rfl rfl (fun h => ?_) (fun h => ?_)) <;> (try (first | contradiction | (exfalso; omega)))) | refine s_splitQ_nb rfl rfl (fun h => ?_) (fun h => ?_) | refine s_splitQ rfl rfl (fun h => ?_) (fun h => ?_))) | refine lQ_then ?_ | refine lQ_ends ?_ | (refine kE ?_; (first | refine e_then_r ?_ | refine e_block_r ?_ | refine e_then_n ?_ | refine e_then_x ?_ | refine e_block_n ?_ | refine e_block_x ?_ | refine e_block_y rfl ?_)) | refine l_ends ?_)
    all_goals
      exact s_leave1 rfl rfl (fun w hw => ⟨_, [], [], rfl, ⟨vint_to (kR_zero [] k).symm, OElems.nil, rfl⟩, hw.gone⟩)
  · rw [hTl] at hnc ⊢
    refine SYieldsG.mk (s_enterM Tryz.func76 rfl Tryz.ntmps76 rfl hH hn ?_)
    refine c_regroup (L' := [[(b0, srow (tcells eReg ([] ++ T.drop 0) ++ r) 43)], tpiece ([] : List (ETri (List DRect))), tpiece (T.drop 0), G]) (fun w hw => hw.perm (by rw [List.drop_zero, List.nil_append]; simp [tpiece])) ?_
    repeat' (first | exact rfl | (apply kO; (first | exact ov_pure rfl | (apply kOBin; (first | exact aBin)) | (apply kOCall; (first | (apply kCallB; (first | exact aBlt | exact aLenR)))) | (apply kOLoad; (first | exact (ov_load rfl rfl (getL_flat (i := 0) rfl (List.mem_singleton.2 rfl)) (keepsD_get (hkeep (by omega)) (by omega))) | exact aLdF | exact aLdR)) | exact ov_fieldAddr rfl | (apply kOIdx; (first | exact (ov_indexAddr rfl rfl (by omega)) | exact aIdx)) | exact aRest | exact aNew | exact (ov_field1 (ft := 31) rfl rfl rfl rfl))) | (refine kN ?_; (first | (refine kCall ?_; (first | (refine kWFn 78 ?_; (refine w_split 2 (A := (T.getD j.1 dR).2.2) (B := tpiece (T.drop (j.1 + 1))) (by show some (tpiece (T.drop j.1)) = _; rw [drop_getG (d := dR) (by omega), tpiece_cons]) ?_; refine s_markRects _ (l := l.getD j.1 []) rfl (show ORects (T.getD j.1 dR).2.1 (l.getD j.1 []) (T.getD j.1 dR).2.2 from hown (by omega)) gpA (by have q1 := hkb j.1 (by omega); have q2 := hkb (j.1 + 1) (by omega); have q3 := hks j.1; omega) rfl (fun H' hu => ?_))) | apply s_step)) | (refine kStore ?_; (first | refine s_store1 _ rfl rfl gpA rfl (by rfl) ?_ | refine s_storeS _ rfl rfl gpA rfl rfl (by rfl) ?_ | refine s_storeS _ rfl rfl gpA rfl (ones_img oiA) (by rfl) ?_)) | refine s_boxS rfl rfl (fun b hb => ?_) | refine s_allocS rfl (fun b hb => ?_) | refine s_box1 rfl rfl rfl (fun b hb => ?_) | refine s_alloc1 rfl rfl (fun b hb => ?_) | refine s_buildSlice0 rfl (fun b hb => ?_) | refine s_buildSlice rfl rfl rfl rfl rfl (fun b hb => ?_) | apply s_step)) | (refine kG ?_; (first | refine s_gyes rfl rfl rfl ?_ | refine s_gno rfl rfl rfl rfl rfl ?_ | ((first | refine s_split_d rfl rfl (fun h => ?_) (fun h => ?_) | refine s_split_n rfl rfl (fun h => ?_) (fun h => ?_)) <;> (try (first | contradiction | (exfalso; omega)))) | refine s_split_nb rfl rfl (fun h => ?_) (fun h => ?_) | refine s_split rfl rfl (fun h => ?_) (fun h => ?_))) | refine l_then ?_ | (refine kC ?_; (first | (refine c_loopV (ι := Nat × List (ETri (List DRect))) (fun j => j.1 ≤ l.length ∧ j.2.map (·.1) = (markRegs l k).take j.1 ∧ (∀ t ∈ j.2, eReg.own t.2.1 t.1 t.2.2)) (fun j => [(5, .int .i64 (j.1 : Int)), (1, .int .i64 (kR l k j.1))]) (fun j => [[(b0, srow (tcells eReg (j.2 ++ T.drop j.1) ++ r) 43)], tpiece j.2, tpiece (T.drop j.1), G]) (fun j => l.length - j.1) (0, []) ⟨by dsimp only; omega, by simp, fun t ht => by cases ht⟩ rfl (fun _ => rfl) ⟨rfl, slook_to rfl (vint_to (kR_zero l k).symm), trivial⟩ (fun w hw => hw) (fun j hj => ?_); obtain ⟨hj1, hj2, hj3⟩ := hj; have hjl : j.2.length = j.1 := (by have := congrArg List.length hj2; rw [List.length_map, List.length_take, markRegs_length] at this; omega); have hlen : (tcells eReg (j.2 ++ T.drop j.1) ++ r).length = cap * 1 := (by rw [List.length_append, hcl] at hcap ⊢; rw [List.length_append, List.length_drop, hjl, hTl]; rw [hTl] at hcap; have e1 : j.1 + (l.length - j.1) = l.length := (by omega); rw [e1]; exact hcap); have hown := (fun (h : j.1 < T.length) => (show ORects (T.getD j.1 dR).2.1 (l.getD j.1 []) (T.getD j.1 dR).2.2 from by have e := h2 _ (getG_mem (d := dR) h); have e2 := getG_fst (d := dR) (T := T) (j := j.1); rw [hT] at e2; rw [← e2]; exact e)); have hkeep := (fun (h : j.1 < T.length) => (show keepsD j.1 (T.getD j.1 dR).2.1 (tcells eReg (j.2 ++ T.drop j.1) ++ r) from by rw [drop_getG (d := dR) h, tcells_append, tcells_cons, List.append_assoc, List.append_assoc]; exact reg_cells_at (by rw [hcl, hjl]; show j.1 * 1 = j.1; omega)))) | refine c_seq ?_ | refine c_regionN rfl ?_ | refine c_ret ?_ | (refine kCond ?_; (first | refine c_cond_t rfl ?_ | refine c_cond_f rfl ?_ | ((first | refine c_cond_d rfl (fun h => ?_) (fun h => ?_) | refine c_cond_n rfl (fun h => ?_) (fun h => ?_)) <;> (try (first | contradiction | (exfalso; omega)))) | refine c_cond_nb rfl (fun h => ?_) (fun h => ?_) | refine c_cond rfl (fun h => ?_) (fun h => ?_))) | refine c_block ?_ | refine c_skip ?_ | refine c_exit ?_ | refine c_regionQN rfl rfl (by decide +kernel) ?_)) | apply s_stepQ | (refine kQG ?_; (first | refine s_gyesQ rfl rfl rfl ?_ | refine s_gnoQ rfl rfl rfl rfl rfl ?_ | ((first | refine s_splitQ_d rfl rfl (fun h => ?_) (fun h => ?_) | refine s_splitQ_n rfl rfl (fun h => ?_) (fun h => ?_)) <;> (try (first | contradiction | (exfalso; omega)))) | refine s_splitQ_nb rfl rfl (fun h => ?_) (fun h => ?_) | refine s_splitQ rfl rfl (fun h => ?_) (fun h => ?_))) | refine lQ_then ?_ | refine lQ_ends ?_ | (refine kE ?_; (first | refine e_then_r ?_ | refine e_block_r ?_ | refine e_then_n ?_ | refine e_then_x ?_ | refine e_block_n ?_ | refine e_block_x ?_ | refine e_block_y rfl ?_)) | refine l_ends ?_)
    · have hjT : j.1 < T.length := by omega
      have e1 : (T.getD j.1 dR).1 = l.getD j.1 [] := by rw [getG_fst, hT]
      refine e_round (j.1 + 1, j.2 ++ [(iotaR (kR l k j.1) (l.getD j.1 []).length, (T.getD j.1 dR).2.1, H')]) ⟨by dsimp only; omega, by dsimp only; rw [List.map_append, hj2, markRegs_take l k (by omega)]; rfl, fun t ht => ?_⟩ ⟨slook_to rfl (vint_to (by push_cast; rfl)), slook_to rfl (vint_to (by rw [hks])), (by repeat' first | exact trivial | refine ⟨rfl, ?_⟩)⟩ (fun w hw => ?_) (by dsimp only; omega)
      · rcases List.mem_append.1 ht with ht | ht
        · exact hj3 t ht
        · rw [List.mem_singleton] at ht
          subst ht
          exact hu
      · have hw2 : SSt _ _ [[], tpiece (T.drop (j.1 + 1)), [(b0, srow (tcells eReg (j.2 ++ T.drop j.1) ++ r) 43)], tpiece j.2, H', G] w := hw
        have ecat2 : tcells eReg ((j.2 ++ [(iotaR (kR l k j.1) (l.getD j.1 []).length, (T.getD j.1 dR).2.1, H')]) ++ T.drop (j.1 + 1)) ++ r = tcells eReg (j.2 ++ T.drop j.1) ++ r := by
          rw [drop_getG (d := dR) hjT, tcells_append, tcells_append, tcells_one, tcells_append, tcells_cons]
          simp only [List.append_assoc]
          rfl
        dsimp only
        rw [ecat2, tpiece_append, tpiece_one]
        refine hw2.perm ?_
        simp only [List.flatten_cons, List.flatten_nil, List.append_nil, List.nil_append]
        refine (List.perm_append_comm_assoc ..).trans (List.Perm.append_left _ ?_)
        refine (List.perm_append_comm_assoc ..).trans ?_
        rw [List.append_assoc]
        refine List.Perm.append_left _ ?_
        exact List.perm_append_comm_assoc ..
    · have e : j.1 = l.length := by omega
      have hd0 : T.drop j.1 = [] := List.drop_of_length_le (by omega)
      rw [e, List.take_of_length_le (by rw [markRegs_length]; omega)] at hj2
      rw [hd0, List.append_nil] at hlen
      refine s_leave1 rfl rfl (fun w hw => ⟨_, [(b0, srow (tcells eReg j.2 ++ r) 43)] ++ (tpiece j.2 ++ G), [], rfl, ⟨by rw [e], ?_, rfl⟩, ?_⟩)
      · have o := OElems.ofTri (e := eReg) (U := 43) (T := j.2) (G := G) (OVec.blk (k := 1) (T := 43) b0 j.2.length cap (tcells eReg j.2) r (hcl _) hlen (by omega) hcm) hj3
        rw [hj2, hjl, e] at o
        exact o
      · have hw2 : SSt _ _ [[(b0, srow (tcells eReg (j.2 ++ T.drop j.1) ++ r) 43)], tpiece j.2, tpiece (T.drop j.1), G] w := hw
        rw [hd0, List.append_nil] at hw2
        refine hw2.perm ?_
        simp [tpiece]
set_option maxHeartbeats 2000000 in
theorem c_heldRegs (v : Value) (l : List (List DRect)) (k : Int) (W : World) (hv : RS eReg W v (markRegs l k)) (hk : 0 ≤ k ∧ k ≤ 1000000000) (hl : regsLen l ≤ 1048576) :
    SYields Tryz.prog 86 #[v, .int .i64 k] (.int .i64 (kR l k l.length)) W := by
  obtain ⟨ds, hv⟩ := hv
  have hlm := markRegs_length l k
  have hln : l.length ≤ regsLen l := by unfold regsLen; omega
  have hke := kR_end l k
  have hkb := fun j (h : j ≤ l.length) => kR_bd (k := k) h
  have hks := kR_succ l k
  have hlr := hv.row.len
  rw [hlm] at hlr
  have hrow : RRow W v 1 l.length (fun i => [ds i]) := RRow.congr hv.row hlm.symm (fun i hi => rfl)
  have hrd : ∀ i, i < l.length → RRects W (ds i) (iotaR (kR l k i) (l.getD i []).length) := fun i hi => by
    have := hv.rd i (by rw [hlm]; exact hi)
    rw [eReg_dflt, markRegs_get l k hi] at this; exact this
  (first | apply SYields.mk | apply SYieldsF.mk | skip); refine s_enter Tryz.func86 rfl Tryz.ntmps86 rfl ?_
  repeat' (first | exact rfl | (apply kO; (first | exact ov_pure rfl | (apply kOBin; (first | exact aBin)) | (apply kOCall; (first | (apply kCallF; (first | exact (ov_call rfl (fun w hw => c_heldRectS _ _ (l.getD j []).length w (RVs.keep (hrd j (by omega)) (hw.cells rfl)) (by have q1 := hkb j (by omega); have q2 := hkb (j + 1) (by omega); have q3 := hks j; omega))))) | (apply kCallB; (first | exact aBlt | exact (ov_lenR (fun w hw => hrow.keep (hw.cells rfl)) rfl) | exact aLenR)))) | (apply kOLoad; (first | exact (ov_ldR0 (fun w hw => hrow.keep (hw.cells rfl)) rfl rfl (by omega) rfl) | exact (ov_ldR (fun w hw => hrow.keep (hw.cells rfl)) rfl rfl (by omega) rfl) | exact aLdF | exact aLdR)) | exact ov_fieldAddr rfl | (apply kOIdx; (first | exact (ov_idxR (fun w hw => hrow.keep (hw.cells rfl)) rfl rfl (by omega)) | exact aIdx)) | exact aRest | exact aNew | exact (ov_field1 (ft := 31) rfl rfl rfl rfl))) | (refine kN ?_; (first | (refine kStore ?_; (first | refine s_store1 _ rfl rfl gpA rfl (by rfl) ?_ | refine s_storeS _ rfl rfl gpA rfl rfl (by rfl) ?_ | refine s_storeS _ rfl rfl gpA rfl (ones_img oiA) (by rfl) ?_)) | refine s_boxS rfl rfl (fun b hb => ?_) | refine s_allocS rfl (fun b hb => ?_) | refine s_box1 rfl rfl rfl (fun b hb => ?_) | refine s_alloc1 rfl rfl (fun b hb => ?_) | refine s_buildSlice0 rfl (fun b hb => ?_) | refine s_buildSlice rfl rfl rfl rfl rfl (fun b hb => ?_) | apply s_step)) | (refine kG ?_; (first | refine s_gyes rfl rfl rfl ?_ | refine s_gno rfl rfl rfl rfl rfl ?_ | ((first | refine s_split_d rfl rfl (fun h => ?_) (fun h => ?_) | refine s_split_n rfl rfl (fun h => ?_) (fun h => ?_)) <;> (try (first | contradiction | (exfalso; omega) | (exfalso; (exfalso; have q1 := hkb j (by omega); have q2 := hkb (j + 1) (by omega); have q3 := hks j; omega))))) | refine s_split_nb rfl rfl (fun h => ?_) (fun h => ?_) | refine s_split rfl rfl (fun h => ?_) (fun h => ?_))) | refine l_then ?_ | (refine kC ?_; (first | (refine c_loopV (ι := Nat) (fun j => j ≤ l.length) (fun j => [(1, .int .i64 (kR l k j)), (5, .int .i64 (j : Int))]) (fun _ => []) (fun j => l.length - j) 0 (by omega) rfl (fun _ => rfl) ⟨slook_to rfl (vint_to (kR_zero l k).symm), rfl, trivial⟩ (fun w hw => hw) (fun j hj => ?_)) | refine c_seq ?_ | refine c_regionN rfl ?_ | refine c_ret ?_ | (refine kCond ?_; (first | refine c_cond_t rfl ?_ | refine c_cond_f rfl ?_ | ((first | refine c_cond_d rfl (fun h => ?_) (fun h => ?_) | refine c_cond_n rfl (fun h => ?_) (fun h => ?_)) <;> (try (first | contradiction | (exfalso; omega) | (exfalso; (exfalso; have q1 := hkb j (by omega); have q2 := hkb (j + 1) (by omega); have q3 := hks j; omega))))) | refine c_cond_nb rfl (fun h => ?_) (fun h => ?_) | refine c_cond rfl (fun h => ?_) (fun h => ?_))) | refine c_block ?_ | refine c_skip ?_ | refine c_exit ?_ | refine c_regionQN rfl rfl (by decide +kernel) ?_)) | apply s_stepQ | (refine kQG ?_; (first | refine s_gyesQ rfl rfl rfl ?_ | refine s_gnoQ rfl rfl rfl rfl rfl ?_ | ((first | refine s_splitQ_d rfl rfl (fun h => ?_) (fun h => ?_) | refine s_splitQ_n rfl rfl (fun h => ?_) (fun h => ?_)) <;> (try (first | contradiction | (exfalso; omega) | (exfalso; (exfalso; have q1 := hkb j (by omega); have q2 := hkb (j + 1) (by omega); have q3 := hks j; omega))))) | refine s_splitQ_nb rfl rfl (fun h => ?_) (fun h => ?_) | refine s_splitQ rfl rfl (fun h => ?_) (fun h => ?_))) | refine lQ_then ?_ | refine lQ_ends ?_ | (refine kE ?_; (first | refine e_then_r ?_ | refine e_block_r ?_ | refine e_then_n ?_ | refine e_then_x ?_ | refine e_block_n ?_ | refine e_block_x ?_ | refine e_block_y rfl ?_)) | refine l_ends ?_)
  all_goals try simp only [Int.toNat_natCast] at *
  · exact e_round (j + 1) (by omega) ⟨slook_to rfl (vint_to (by rw [hks])), rfl, (by repeat' first | exact trivial | refine ⟨rfl, ?_⟩)⟩ (fun w hw => hw) (by omega)
  · exact s_leave1 rfl rfl (fun w hw => ⟨ret_int (by rw [show j = l.length by omega]), hw.below⟩)
def kC1 (c : DChain) (k : Int) : Int := kI c.bufs k c.bufs.length
def kC2 (c : DChain) (k : Int) : Int := kC1 c k + c.ages.length
def kC3 (c : DChain) (k : Int) : Int := kR c.dams (kC2 c k) c.dams.length
def kC4 (c : DChain) (k : Int) : Int := kC3 c k + 9 * c.scene.ss.length + surfsLen c.scene.ss
def markCh (c : DChain) (k : Int) : DChain := ⟨markImgs c.bufs k, iota (kC1 c k) c.ages.length, markRegs c.dams (kC2 c k), { c.scene with ss := markSurfs c.scene.ss (kC3 c k) }⟩
theorem kC_bd {c : DChain} {k : Int} (hl : chainLen c ≤ 1048576) : (k ≤ kC1 c k ∧ kC1 c k ≤ k + 2097152) ∧ (kC1 c k ≤ kC2 c k ∧ kC2 c k ≤ k + 4194304) ∧ (kC2 c k ≤ kC3 c k ∧ kC3 c k ≤ k + 10000000) ∧ (kC3 c k ≤ kC4 c k ∧ kC4 c k ≤ k + 30000000) := by
  have h1 := kI_end c.bufs k
  have h2 := kR_end c.dams (kC2 c k)
  have h3 : c.bufs.length ≤ imgsLen c.bufs := by unfold imgsLen; omega
  have h4 : c.scene.ss.length ≤ surfsLen c.scene.ss := Nat.le_add_right _ _
  unfold chainLen at hl
  have e1 : kC1 c k = kI c.bufs k c.bufs.length := rfl
  have e2 : kC2 c k = kC1 c k + c.ages.length := rfl
  have e3 : kC3 c k = kR c.dams (kC2 c k) c.dams.length := rfl
  have e4 : kC4 c k = kC3 c k + 9 * c.scene.ss.length + surfsLen c.scene.ss := rfl
  omega
theorem OChain.inv {c e : DChain} {b a d s : Value} {H : SPiece} (h : OChain (vChain e b a d s) c H) : ∃ Hb Ha Hd Hs, OElems eImg 49 b c.bufs Hb ∧ OInts 3 a c.ages Ha ∧ OElems eReg 43 d c.dams Hd ∧ OElems eSurf 126 s c.scene.ss Hs ∧ H = [Hs, Hd, Ha, Hb].flatten := by
  obtain ⟨b', a', d', s', Hb, Ha, Hd, Hs, e, o1, o2, o3, o4, rfl⟩ := h
  simp only [Value.agg.injEq, Array.mk.injEq, List.cons.injEq, and_true] at e
  obtain ⟨rfl, rfl, rfl, -, -, -, rfl⟩ := e
  exact ⟨_, _, _, _, o1, o2, o3, o4, rfl⟩
theorem OChain.rd {c e : DChain} {b a d s : Value} {H : SPiece} (h : OChain (vChain e b a d s) c H) {w : World} (hw : Holds w H) : RCh w c b a d s := by
  obtain ⟨Hb, Ha, Hd, Hs, o1, o2, o3, o4, rfl⟩ := h.inv
  exact ⟨o1.rs (hw.sub (i := 3) rfl), OInts.reads o2 (hw.sub (i := 2) rfl), o3.rs (hw.sub (i := 1) rfl), o4.rs (hw.sub (i := 0) rfl)⟩
theorem OChain.form {u : Value} {c : DChain} {H : SPiece} (h : OChain u c H) : ∃ b a d s, u = vChain c b a d s := by
  obtain ⟨b', a', d', s', Hb, Ha, Hd, Hs, e, o1, o2, o3, o4, rfl⟩ := h
  exact ⟨_, _, _, _, e⟩
set_option maxHeartbeats 2000000 in
theorem c_markChain (c : DChain) (vb va vd vs : Value) (H : SPiece) (k : Int) (W : World) (hv : OChain (vChain c vb va vd vs) c H) (hH : Holds W H) (hn : H.keys.Nodup) (hk : 0 ≤ k ∧ k ≤ 900000000) (hl : chainLen c ≤ 1048576) :
    SYieldsG Tryz.prog 27 #[vChain c vb va vd vs, .int .i64 k] H (fun u H' F => u = .int .i64 (kC4 c k) ∧ OChain (vChain c vb va vd vs) (markCh c k) H' ∧ F = []) W := by
  obtain ⟨Hb, Ha, Hd, Hs, o1, o2, o3, o4, rfl⟩ := hv.inv
  have hkb := kC_bd (k := k) hl
  have hcl : chainLen c = imgsLen c.bufs + c.ages.length + regsLen c.dams + surfsLen c.scene.ss := rfl
  have h4 : c.scene.ss.length ≤ surfsLen c.scene.ss := Nat.le_add_right _ _
  refine SYieldsG.mk (s_enterM Tryz.func27 rfl Tryz.ntmps27 rfl hH hn ?_)
  refine c_regroup (L' := [Hs, Hd, Ha, Hb]) (fun w hw => hw.perm (by simp)) ?_
  repeat' (first | exact rfl | (apply kO; (first | exact ov_pure rfl | (apply kOBin; (first | exact aBin)) | (apply kOCall; (first | (apply kCallB; (first | exact aBlt | exact aLenR)))) | (apply kOLoad; (first | exact aLdF | exact aLdR)) | exact ov_fieldAddr rfl | (apply kOIdx; (first | exact aIdx)) | exact aRest | exact aNew | exact (ov_field1 (ft := 31) rfl rfl rfl rfl))) | (refine kN ?_; (first | (refine kCall ?_; (first | (refine kWFn 74 ?_; (refine s_callG _ (H := Hb) (fun u H' F => u = .int .i64 (kC1 c k) ∧ OElems eImg 49 vb (markImgs c.bufs k) H' ∧ F = []) rfl gpA (fun w hw hh hn => c_markImgs vb c.bufs Hb k w o1 hh hn (by omega) (by omega)) rfl (fun u H1 F hu => ?_); obtain ⟨rfl, hu1, rfl⟩ := hu)) | (refine kWFn 75 ?_; (refine s_callG _ (H := Ha) (fun u H' F => u = .int .i64 (kC2 c k) ∧ OInts 3 va (iota (kC1 c k) c.ages.length) H' ∧ F = []) rfl gpA (fun w hw hh hn => c_markIntS va c.ages Ha (kC1 c k) w o2 hh hn (by omega)) rfl (fun u H2 F hu => ?_); obtain ⟨rfl, hu2, rfl⟩ := hu)) | (refine kWFn 76 ?_; (refine s_callG _ (H := Hd) (fun u H' F => u = .int .i64 (kC3 c k) ∧ OElems eReg 43 vd (markRegs c.dams (kC2 c k)) H' ∧ F = []) rfl gpA (fun w hw hh hn => c_markRegs vd c.dams Hd (kC2 c k) w o3 hh hn (by omega) (by omega)) rfl (fun u H3 F hu => ?_); obtain ⟨rfl, hu3, rfl⟩ := hu)) | (refine kWFn 28 ?_; (refine s_callG _ (H := Hs) (fun u H' F => u = .int .i64 (kC4 c k) ∧ OElems eSurf 126 vs (markSurfs c.scene.ss (kC3 c k)) H' ∧ F = []) rfl gpA (fun w hw hh hn => c_markSceneX c.scene vs Hs (kC3 c k) w o4 hh hn (by omega) (by omega)) rfl (fun u H4 F hu => ?_); obtain ⟨rfl, hu4, rfl⟩ := hu)) | apply s_step)) | (refine kStore ?_; (first | refine s_store1 _ rfl rfl gpA rfl (by rfl) ?_ | refine s_storeS _ rfl rfl gpA rfl rfl (by rfl) ?_ | refine s_storeS _ rfl rfl gpA rfl (ones_img oiA) (by rfl) ?_)) | refine s_boxS rfl rfl (fun b hb => ?_) | refine s_allocS rfl (fun b hb => ?_) | refine s_box1 rfl rfl rfl (fun b hb => ?_) | refine s_alloc1 rfl rfl (fun b hb => ?_) | refine s_buildSlice0 rfl (fun b hb => ?_) | refine s_buildSlice rfl rfl rfl rfl rfl (fun b hb => ?_) | apply s_step)) | (refine kG ?_; (first | refine s_gyes rfl rfl rfl ?_ | refine s_gno rfl rfl rfl rfl rfl ?_ | ((first | refine s_split_d rfl rfl (fun h => ?_) (fun h => ?_) | refine s_split_n rfl rfl (fun h => ?_) (fun h => ?_)) <;> (try (first | contradiction | (exfalso; omega)))) | refine s_split_nb rfl rfl (fun h => ?_) (fun h => ?_) | refine s_split rfl rfl (fun h => ?_) (fun h => ?_))) | refine l_then ?_ | (refine kC ?_; (first | refine c_seq ?_ | refine c_regionN rfl ?_ | refine c_ret ?_ | (refine kCond ?_; (first | refine c_cond_t rfl ?_ | refine c_cond_f rfl ?_ | ((first | refine c_cond_d rfl (fun h => ?_) (fun h => ?_) | refine c_cond_n rfl (fun h => ?_) (fun h => ?_)) <;> (try (first | contradiction | (exfalso; omega)))) | refine c_cond_nb rfl (fun h => ?_) (fun h => ?_) | refine c_cond rfl (fun h => ?_) (fun h => ?_))) | refine c_block ?_ | refine c_skip ?_ | refine c_exit ?_ | refine c_regionQN rfl rfl (by decide +kernel) ?_)) | apply s_stepQ | (refine kQG ?_; (first | refine s_gyesQ rfl rfl rfl ?_ | refine s_gnoQ rfl rfl rfl rfl rfl ?_ | ((first | refine s_splitQ_d rfl rfl (fun h => ?_) (fun h => ?_) | refine s_splitQ_n rfl rfl (fun h => ?_) (fun h => ?_)) <;> (try (first | contradiction | (exfalso; omega)))) | refine s_splitQ_nb rfl rfl (fun h => ?_) (fun h => ?_) | refine s_splitQ rfl rfl (fun h => ?_) (fun h => ?_))) | refine lQ_then ?_ | refine lQ_ends ?_ | (refine kE ?_; (first | refine e_then_r ?_ | refine e_block_r ?_ | refine e_then_n ?_ | refine e_then_x ?_ | refine e_block_n ?_ | refine e_block_x ?_ | refine e_block_y rfl ?_)) | refine l_ends ?_)
  all_goals refine s_leave1 rfl rfl (fun w hw => ⟨_, [H4, H3, H2, H1].flatten, [], rfl, ⟨rfl, ⟨_, _, _, _, _, _, _, _, rfl, hu1, hu2, hu3, hu4, rfl⟩, rfl⟩, ?_⟩)
  all_goals exact (hw.sub (selO_sub [false, false, false, false, false, true, true, true, true] _ _ rfl)).perm (by simp)
section
variable {n : Nat} {lo : SMut} {s : World} {ops : Array Oper} {Q : Exit → Act → World → Prop} {E : SEnv} {L : SHeap} {dd : Nat} {ty : TypeId} {pos : String} {after : Array Edge} {rest : List Oper}
theorem s_markChain (i : Nat) (c : DChain) {b a d u : Value} {k : Int} {H : SPiece} {args : List Operand} {ts : Array TypeId} (ha : svals E args = some [vChain c b a d u, .int .i64 k]) (hv : OChain (vChain c b a d u) c H) (hL : getL L i = some H) (hk : 0 ≤ k ∧ k ≤ 900000000) (hl : chainLen c ≤ 1048576) (hd : Nat.blt dd n = true)
    (q : ∀ H', OChain (vChain c b a d u) (markCh c k) H' → WPL Tryz.prog n lo s ops Q rest ((dd, .int .i64 (kC4 c k)) :: E) ([] :: setL L i H')) :
    WPL Tryz.prog n lo s ops Q (⟨some dd, .call { callee := .value (.func 27), args := args.toArray, argTypes := ts }, ty, pos, after, none⟩ :: rest) E L :=
  s_callG i (fun v' H' F => v' = .int .i64 (kC4 c k) ∧ OChain (vChain c b a d u) (markCh c k) H' ∧ F = []) ha hL (fun w hw hh hn => c_markChain c b a d u H k w hv hh hn hk hl) hd (fun v' H' F hu => by obtain ⟨rfl, hu, rfl⟩ := hu; exact q H' hu)
end
set_option maxHeartbeats 2000000 in
theorem c_heldChain (c : DChain) (vb va vd vs : Value) (k : Int) (W : World) (hv : RCh W (markCh c k) vb va vd vs) (hk : 0 ≤ k ∧ k ≤ 900000000) (hl : chainLen c ≤ 1048576) :
    SYields Tryz.prog 32 #[vChain c vb va vd vs, .int .i64 k] (.int .i64 (kC4 c k)) W := by
  obtain ⟨r1, r2, r3, r4⟩ := hv
  have hkb := kC_bd (k := k) hl
  have hcl : chainLen c = imgsLen c.bufs + c.ages.length + regsLen c.dams + surfsLen c.scene.ss := rfl
  have h4 : c.scene.ss.length ≤ surfsLen c.scene.ss := Nat.le_add_right _ _
  have ha : heldI (iota (kC1 c k) c.ages.length) (kC1 c k) = kC2 c k := heldI_mark _ _
  (first | apply SYields.mk | apply SYieldsF.mk | skip); refine s_enter Tryz.func32 rfl Tryz.ntmps32 rfl ?_
  repeat' (first | exact rfl | (apply kO; (first | exact ov_pure rfl | (apply kOBin; (first | exact aBin)) | (apply kOCall; (first | (apply kCallB; (first | exact aBlt | exact aLenR)))) | (apply kOLoad; (first | exact aLdF | exact aLdR)) | exact ov_fieldAddr rfl | (apply kOIdx; (first | exact aIdx)) | exact aRest | exact aNew | exact (ov_field1 (ft := 31) rfl rfl rfl rfl))) | (refine kN ?_; (first | (refine kCall ?_; (first | (refine kWFn 84 ?_; (refine s_step (ov_call rfl (fun w hw => (show SYields Tryz.prog 84 #[vb, .int .i64 k] (.int .i64 (kC1 c k)) w from c_heldImgs vb c.bufs k w (r1.keep (hw.cells rfl)) (by omega) (by omega)))) rfl ?_)) | (refine kWFn 85 ?_; (refine s_step (ov_call rfl (fun w hw => (show SYields Tryz.prog 85 #[va, .int .i64 (kC1 c k)] (.int .i64 (kC2 c k)) w from by rw [← ha]; exact c_heldIntS va (iota (kC1 c k) c.ages.length) (kC1 c k) w (r2.keep (hw.cells rfl)) (by rw [iota_length]; omega)))) rfl ?_)) | (refine kWFn 86 ?_; (refine s_step (ov_call rfl (fun w hw => (show SYields Tryz.prog 86 #[vd, .int .i64 (kC2 c k)] (.int .i64 (kC3 c k)) w from c_heldRegs vd c.dams (kC2 c k) w (r3.keep (hw.cells rfl)) (by omega) (by omega)))) rfl ?_)) | (refine kWFn 87 ?_; (refine s_step (ov_call rfl (fun w hw => (show SYields Tryz.prog 87 #[vScene c.scene vs, .int .i64 (kC3 c k)] (.int .i64 (kC4 c k)) w from c_heldScene c.scene vs (kC3 c k) w (r4.keep (hw.cells rfl)) (by omega) (by omega)))) rfl ?_)) | apply s_step)) | (refine kStore ?_; (first | refine s_store1 _ rfl rfl gpA rfl (by rfl) ?_ | refine s_storeS _ rfl rfl gpA rfl rfl (by rfl) ?_ | refine s_storeS _ rfl rfl gpA rfl (ones_img oiA) (by rfl) ?_)) | refine s_boxS rfl rfl (fun b hb => ?_) | refine s_allocS rfl (fun b hb => ?_) | refine s_box1 rfl rfl rfl (fun b hb => ?_) | refine s_alloc1 rfl rfl (fun b hb => ?_) | refine s_buildSlice0 rfl (fun b hb => ?_) | refine s_buildSlice rfl rfl rfl rfl rfl (fun b hb => ?_) | apply s_step)) | (refine kG ?_; (first | refine s_gyes rfl rfl rfl ?_ | refine s_gno rfl rfl rfl rfl rfl ?_ | ((first | refine s_split_d rfl rfl (fun h => ?_) (fun h => ?_) | refine s_split_n rfl rfl (fun h => ?_) (fun h => ?_)) <;> (try (first | contradiction | (exfalso; omega)))) | refine s_split_nb rfl rfl (fun h => ?_) (fun h => ?_) | refine s_split rfl rfl (fun h => ?_) (fun h => ?_))) | refine l_then ?_ | (refine kC ?_; (first | refine c_seq ?_ | refine c_regionN rfl ?_ | refine c_ret ?_ | (refine kCond ?_; (first | refine c_cond_t rfl ?_ | refine c_cond_f rfl ?_ | ((first | refine c_cond_d rfl (fun h => ?_) (fun h => ?_) | refine c_cond_n rfl (fun h => ?_) (fun h => ?_)) <;> (try (first | contradiction | (exfalso; omega)))) | refine c_cond_nb rfl (fun h => ?_) (fun h => ?_) | refine c_cond rfl (fun h => ?_) (fun h => ?_))) | refine c_block ?_ | refine c_skip ?_ | refine c_exit ?_ | refine c_regionQN rfl rfl (by decide +kernel) ?_)) | apply s_stepQ | (refine kQG ?_; (first | refine s_gyesQ rfl rfl rfl ?_ | refine s_gnoQ rfl rfl rfl rfl rfl ?_ | ((first | refine s_splitQ_d rfl rfl (fun h => ?_) (fun h => ?_) | refine s_splitQ_n rfl rfl (fun h => ?_) (fun h => ?_)) <;> (try (first | contradiction | (exfalso; omega)))) | refine s_splitQ_nb rfl rfl (fun h => ?_) (fun h => ?_) | refine s_splitQ rfl rfl (fun h => ?_) (fun h => ?_))) | refine lQ_then ?_ | refine lQ_ends ?_ | (refine kE ?_; (first | refine e_then_r ?_ | refine e_block_r ?_ | refine e_then_n ?_ | refine e_then_x ?_ | refine e_block_n ?_ | refine e_block_x ?_ | refine e_block_y rfl ?_)) | refine l_ends ?_)
  all_goals refine s_leave1 rfl rfl (fun w hw => ⟨?_, hw.below⟩)
  all_goals first | rfl | (exfalso; omega)
end Go.Proofs.YtakijgpoaeggnaaGreat
/-
  A chain's own cells hold one value each.
-/
set_option linter.unusedVariables false
namespace Go.Proofs.YtakijgpoaeggnaaGreat
open Go Sx
theorem OChain.ones {c e : DChain} {b a d s : Value} {H : SPiece} (h : OChain (vChain e b a d s) c H) : oneCells [b, a, d, .int .i64 e.scene.W, .int .i64 e.scene.H, .int .i64 e.scene.Back, s] = true := by
  obtain ⟨Hb, Ha, Hd, Hs, o1, o2, o3, o4, rfl⟩ := h.inv
  exact ones_cons o1.one (ones_cons o2.one (ones_cons o3.one (ones_cons rfl (ones_cons rfl (ones_cons rfl (ones_cons o4.one rfl))))))
end Go.Proofs.YtakijgpoaeggnaaGreat
/-
  Rules: own slices of structs: an element is stored, the tail is cut off. Nothing of any one program.
-/
set_option linter.unusedVariables false
namespace Go.Proofs.YtakijgpoaeggnaaGreat
open Go Sx
attribute [local irreducible] Exit.then Exit.inBlock bodyPost
section
variable {α : Type} {el : SElem α}
theorem gT_cut {T : List (ETri α)} {k : Nat} (h : k < T.length) : T = T.take k ++ T[k] :: T.drop (k + 1) := by
  rw [← List.drop_eq_getElem_cons h, List.take_append_drop]
theorem gT_set {T : List (ETri α)} {k : Nat} (h : k < T.length) (t : ETri α) : T.set k t = T.take k ++ t :: T.drop (k + 1) := by
  rw [List.set_eq_take_append_cons_drop, if_pos h]
theorem gcells_set {T : List (ETri α)} {k : Nat} {t : ETri α} {r : List Value} (h : k < T.length) :
    (tcells el T ++ r).take (k * el.k) ++ el.cells t.1 t.2.1 ++ (tcells el T ++ r).drop (k * el.k + el.k) = tcells el (T.set k t) ++ r := by
  have hl : (tcells el (T.take k)).length = k * el.k := by rw [tcells_length, List.length_take, Nat.min_eq_left (by omega)]
  have hk : (el.cells T[k].1 T[k].2.1).length = el.k := el.klen _ _
  have e0 : tcells el T = tcells el (T.take k) ++ (el.cells T[k].1 T[k].2.1 ++ tcells el (T.drop (k + 1))) := by
    rw [← tcells_cons, ← tcells_append, ← gT_cut h]
  have e : tcells el T ++ r = tcells el (T.take k) ++ (el.cells T[k].1 T[k].2.1 ++ (tcells el (T.drop (k + 1)) ++ r)) := by
    rw [e0, List.append_assoc, List.append_assoc]
  rw [e, gT_set h, tcells_append, tcells_cons]
  rw [List.take_left' hl, List.drop_append, List.drop_of_length_le (by omega), List.nil_append, hl, Nat.add_sub_cancel_left, List.drop_left' hk]
  simp only [List.append_assoc]
theorem gpiece_set {T : List (ETri α)} {k : Nat} (h : k < T.length) (t : ETri α) : (tpiece T ++ t.2.2).Perm (tpiece (T.set k t) ++ T[k].2.2) := by
  have e : tpiece T = tpiece (T.take k) ++ (T[k].2.2 ++ tpiece (T.drop (k + 1))) := by
    rw [← tpiece_cons, ← tpiece_append, ← gT_cut h]
  rw [e, gT_set h, tpiece_append, tpiece_cons]
  simp only [List.append_assoc]
  refine List.Perm.append_left _ ?_
  refine (List.perm_append_comm).trans ?_
  rw [List.append_assoc]
  exact List.perm_append_comm_assoc _ _ _
theorem gown_set {T : List (ETri α)} {k : Nat} {t : ETri α} (h : ∀ u ∈ T, el.own u.2.1 u.1 u.2.2) (ht : el.own t.2.1 t.1 t.2.2) : ∀ u ∈ T.set k t, el.own u.2.1 u.1 u.2.2 := fun u hu => by
  rcases List.mem_or_eq_of_mem_set hu with hu | hu
  · exact h u hu
  · rw [hu]; exact ht
theorem perm6 {β : Type} (p g a n m s o : List β) (h : (p ++ a).Perm (s ++ o)) : ((p ++ g) ++ (a ++ (n ++ m))).Perm ((n ++ (s ++ (o ++ g))) ++ m) := by
  have h1 : ((p ++ g) ++ (a ++ (n ++ m))).Perm ((p ++ a) ++ (g ++ (n ++ m))) := by
    rw [List.append_assoc, List.append_assoc]
    exact List.Perm.append_left _ (List.perm_append_comm_assoc _ _ _)
  have h2 : ((p ++ a) ++ (g ++ (n ++ m))).Perm ((s ++ o) ++ (g ++ (n ++ m))) := List.Perm.append_right _ h
  have h3 : ((s ++ o) ++ (g ++ (n ++ m))).Perm (n ++ ((s ++ (o ++ g)) ++ m)) := by
    have e : (s ++ o) ++ (g ++ (n ++ m)) = (s ++ (o ++ g)) ++ (n ++ m) := by simp only [List.append_assoc]
    rw [e]
    exact List.perm_append_comm_assoc _ _ _
  rw [List.append_assoc n]
  exact (h1.trans h2).trans h3
theorem _root_.Sx.OElems.cut {U : TypeId} {ad : Option Addr} {n c : Nat} {l : List α} {H : SPiece} (h : OElems el U (.slice ad n c) l H) {m : Nat} (hm : m ≤ l.length) : OElems el U (.slice ad m c) (l.take m) H := by
  obtain ⟨T, H0, G, rfl, o1, o2, rfl⟩ := h.tri
  rw [List.length_map] at hm
  have e : H0 ++ (tpiece T ++ G) = H0 ++ (tpiece (T.take m) ++ (tpiece (T.drop m) ++ G)) := by
    rw [← List.append_assoc (tpiece (T.take m)), ← tpiece_append, List.take_append_drop]
  rw [e, ← List.map_take]
  rcases OVec.inv o1 with ⟨e1, hn0, rfl⟩ | ⟨b0, cap, r, e1, rfl, hcap, hnc, hcm⟩
  · cases e1
    obtain rfl : m = 0 := by omega
    have hT : T = [] := List.eq_nil_of_length_eq_zero hn0
    subst hT
    exact OElems.ofTri (T := []) OVec.nil (fun t h => by cases h)
  · cases e1
    have hl : (T.take m).length = m := by rw [List.length_take]; omega
    refine OElems.ofTri (T := T.take m) ?_ (fun t ht => o2 t (List.mem_of_mem_take ht))
    have e2 : tcells el T ++ r = tcells el (T.take m) ++ (tcells el (T.drop m) ++ r) := by rw [← List.append_assoc, ← tcells_append, List.take_append_drop]
    rw [e2] at hcap ⊢
    rw [hl]
    exact OVec.blk b0 m _ _ _ (by rw [tcells_length, hl]) hcap (by omega) hcm
end
section
variable {P : Program} {n : Nat} {lo : SMut} {s : World} {ops : Array Oper} {Q : Exit → Act → World → Prop} {E : SEnv} {L : SHeap} {ty : TypeId} {pos : String} {after : Array Edge} {rest : List Oper}
theorem s_setE (i i3 : Nat) {α : Type} {el : SElem α} {T U : TypeId} {x y : Operand} {v z : Value} {by_ : Nat} {l : List α} {a : α} {dv : Value} {H Ha : SPiece} {k : Nat} [hi : SInf P T z el.k by_]
    (hx : sval E x = some (.pointer (some ⟨(baseOf v).1, (baseOf v).2 + k * el.k, none⟩))) (hy : sval E y = some (.agg (el.cells a dv).toArray)) (hv : OElems el U v l H) (hL : getL L i = some H)
    (ha : el.own dv a Ha) (hL3 : getL L i3 = some Ha) (h13 : Nat.beq i i3 = false) (h1 : oneCells (el.cells a dv) = true) (hk : k < l.length)
    (q : ∀ H', OElems el U v (l.set k a) H' → WPL P n lo s ops Q rest E (setL (setL L i H') i3 [])) :
    WPL P n lo s ops Q (⟨none, .store T x y, ty, pos, after, none⟩ :: rest) E L := by
  obtain ⟨TT, H0, G, rfl, o1, o2, rfl⟩ := hv.tri
  rw [List.length_map] at hk
  rcases OVec.inv o1 with ⟨rfl, hn0, rfl⟩ | ⟨b0, cap, r, rfl, rfl, hcap, hnc, hcm⟩
  · omega
  have hn3 := nbeq h13
  have hmul : (k + 1) * el.k ≤ TT.length * el.k := Nat.mul_le_mul_right _ hk
  rw [Nat.succ_mul] at hmul
  refine w_split i hL ?_
  simp only [baseOf, Nat.zero_add] at hx
  refine s_setRS (i + 1) hx hy (show getL (_ :: setL L i _) (i + 1) = some [(b0, srow (tcells el TT ++ r) U)] from getL_set hL) (el.klen _ _) h1 (by rw [List.length_append, tcells_length]; omega) ?_
  show WPL P n lo s ops Q rest _ ((tpiece TT ++ G) :: setL (setL L i _) i _)
  rw [setL_twice, gcells_set (t := (a, dv, Ha)) hk]
  have hs : (TT.set k (a, dv, Ha)).length = TT.length := List.length_set
  have o3 : OElems el U (.slice (some ⟨b0, 0, none⟩) TT.length cap) ((TT.set k (a, dv, Ha)).map (·.1)) ([(b0, srow (tcells el (TT.set k (a, dv, Ha)) ++ r) U)] ++ (tpiece (TT.set k (a, dv, Ha)) ++ (TT[k].2.2 ++ G))) :=
    OElems.ofTri (by
      rw [hs]
      exact OVec.blk b0 TT.length cap _ _ (by rw [tcells_length, hs]) (by rw [← hcap, List.length_append, List.length_append, tcells_length, tcells_length, hs]) hnc hcm) (gown_set o2 ha)
  rw [List.map_set] at o3
  refine w_perm ?_ (q _ o3)
  have hLi : getL (setL L i3 []) i = some ([(b0, srow (tcells el TT ++ r) U)] ++ (tpiece TT ++ G)) := by rw [getL_other (Ne.symm hn3)]; exact hL
  have g3 : getL (setL L i [(b0, srow (tcells el (TT.set k (a, dv, Ha)) ++ r) U)]) i3 = some Ha := by rw [getL_other hn3]; exact hL3
  have e1 := setL_flat g3
  rw [setL_comm L _ _ hn3] at e1 ⊢
  have e2 := setL_put (H' := [(b0, srow (tcells el (TT.set k (a, dv, Ha)) ++ r) U)]) hLi
  have e3 := setL_put (H' := [(b0, srow (tcells el (TT.set k (a, dv, Ha)) ++ r) U)] ++ (tpiece (TT.set k (a, dv, Ha)) ++ (TT[k].2.2 ++ G))) hLi
  rw [List.flatten_cons]
  exact (List.Perm.append_left _ (e1.trans (List.Perm.append_left _ e2))).trans ((perm6 _ _ _ _ _ _ _ (gpiece_set hk (a, dv, Ha))).trans e3.symm)
end
end Go.Proofs.YtakijgpoaeggnaaGreat
/-
  Which loop is it: the number of the region that it begins with.
-/
set_option linter.unusedVariables false
namespace Go.Proofs.YtakijgpoaeggnaaGreat
open Go Sx
section
variable {P : Program} {n : Nat} {lo : SMut} {s : World} {Q : Exit → Act → World → Prop} {E : SEnv} {L : SHeap}
theorem kLoop (id : Nat) {ops : Array Oper} {dr : Bool} {y z : Code} (h : WPC P n lo s (.loop (.seq (.seq (.region id ops dr) z) y)) Q E L) : WPC P n lo s (.loop (.seq (.seq (.region id ops dr) z) y)) Q E L := h
theorem kLoopR (id : Nat) {ops : Array Oper} {dr : Bool} {z : Code} (h : WPC P n lo s (.loop (.seq (.region id ops dr) z)) Q E L) : WPC P n lo s (.loop (.seq (.region id ops dr) z)) Q E L := h
end
end Go.Proofs.YtakijgpoaeggnaaGreat
/-
  Contracts: faded pixels; places in oriented and in scaled pictures.
-/
set_option linter.unusedVariables false
namespace Go.Proofs.YtakijgpoaeggnaaGreat
open Go Sx
attribute [local irreducible] Exit.then Exit.inBlock bodyPost
theorem c_ipart (a c : Int) (w : World) : SYields Tryz.prog 187 #[.int .i64 a, .int .i64 c] (.int .i64 (prt a c)) w := by
  have hm := fun (h1 : 0 ≤ a ∧ a ≤ 255) (h2 : 0 ≤ c ∧ c ≤ 255) => mul_bd h1 h2
  (first | apply SYields.mk | apply SYieldsF.mk | skip); refine s_enter Tryz.func187 rfl Tryz.ntmps187 rfl ?_
  repeat' (first | exact rfl | (apply kO; (first | exact ov_pure rfl | (apply kOBin; (first | exact aBin | exact (ov_mul rfl rfl (by have := hm (by omega) (by omega); omega)) | exact (ov_add rfl rfl (by have := hm (by omega) (by omega); omega)) | exact (ov_quo rfl rfl (by have := hm (by omega) (by omega); omega)))) | (apply kOCall; (first | (apply kCallF; (first | exact (ov_call rfl (fun w hw => c_within _ _ _ w)))) | (apply kCallB; (first | exact aBlt | exact aLenR)))) | (apply kOLoad; (first | exact aLdF | exact aLdR)) | exact ov_fieldAddr rfl | (apply kOIdx; (first | exact aIdx)) | exact aRest | exact aNew | exact (ov_field1 (ft := 31) rfl rfl rfl rfl))) | (refine kN ?_; (first | (refine kStore ?_; (first | refine s_store1 _ rfl rfl gpA rfl (by rfl) ?_ | refine s_storeS _ rfl rfl gpA rfl rfl (by rfl) ?_ | refine s_storeS _ rfl rfl gpA rfl (ones_img oiA) (by rfl) ?_)) | refine s_boxS rfl rfl (fun b hb => ?_) | refine s_allocS rfl (fun b hb => ?_) | refine s_box1 rfl rfl rfl (fun b hb => ?_) | refine s_alloc1 rfl rfl (fun b hb => ?_) | refine s_buildSlice0 rfl (fun b hb => ?_) | refine s_buildSlice rfl rfl rfl rfl rfl (fun b hb => ?_) | apply s_step)) | (refine kG ?_; (first | refine s_gyes rfl rfl rfl ?_ | refine s_gno rfl rfl rfl rfl rfl ?_ | ((first | refine s_split_d rfl rfl (fun h => ?_) (fun h => ?_) | refine s_split_n rfl rfl (fun h => ?_) (fun h => ?_)) <;> (try (first | contradiction | (exfalso; omega)))) | refine s_split_nb rfl rfl (fun h => ?_) (fun h => ?_) | refine s_split rfl rfl (fun h => ?_) (fun h => ?_))) | refine l_then ?_ | (refine kC ?_; (first | refine c_seq ?_ | refine c_regionN rfl ?_ | refine c_ret ?_ | (refine kCond ?_; (first | refine c_cond_t rfl ?_ | refine c_cond_f rfl ?_ | ((first | refine c_cond_d rfl (fun h => ?_) (fun h => ?_) | refine c_cond_n rfl (fun h => ?_) (fun h => ?_)) <;> (try (first | contradiction | (exfalso; omega)))) | refine c_cond_nb rfl (fun h => ?_) (fun h => ?_) | refine c_cond rfl (fun h => ?_) (fun h => ?_))) | refine c_block ?_ | refine c_skip ?_ | refine c_exit ?_ | refine c_regionQN rfl rfl (by decide +kernel) ?_)) | apply s_stepQ | (refine kQG ?_; (first | refine s_gyesQ rfl rfl rfl ?_ | refine s_gnoQ rfl rfl rfl rfl rfl ?_ | ((first | refine s_splitQ_d rfl rfl (fun h => ?_) (fun h => ?_) | refine s_splitQ_n rfl rfl (fun h => ?_) (fun h => ?_)) <;> (try (first | contradiction | (exfalso; omega)))) | refine s_splitQ_nb rfl rfl (fun h => ?_) (fun h => ?_) | refine s_splitQ rfl rfl (fun h => ?_) (fun h => ?_))) | refine lQ_then ?_ | refine lQ_ends ?_ | (refine kE ?_; (first | refine e_then_r ?_ | refine e_block_r ?_ | refine e_then_n ?_ | refine e_then_x ?_ | refine e_block_n ?_ | refine e_block_x ?_ | refine e_block_y rfl ?_)) | refine l_ends ?_)
  all_goals refine s_leave1 rfl rfl (fun w hw => ⟨?_, hw.below⟩)
  all_goals (refine ret_int ?_; unfold prt byteP; first | (rw [if_neg (by omega)]; done) | rw [if_pos ⟨by omega, by omega⟩])
theorem c_ifade (p a : Int) (w : World) : SYields Tryz.prog 192 #[.int .i64 p, .int .i64 a] (.int .i64 (fade p a)) w := by
  have hp := fun (h : byteP a) => prt_bd (chan_bd p 0) h
  (first | apply SYields.mk | apply SYieldsF.mk | skip); refine s_enter Tryz.func192 rfl Tryz.ntmps192 rfl ?_
  repeat' (first | exact rfl | (apply kO; (first | exact ov_pure rfl | (apply kOBin; (first | exact aBin | exact (ov_shlN 24 16777216 (by decide) (by decide) rfl rfl (by have := hp (by unfold byteP; omega); omega)) | exact (ov_orS 24 (p := 16777216) (by decide) rfl rfl (by have := hp (by unfold byteP; omega); omega) (by omega)) | exact (ov_add rfl rfl (by have := hp (by unfold byteP; omega); omega)))) | (apply kOCall; (first | (apply kCallF; (first | exact (ov_call rfl (fun w hw => c_within _ _ _ w)) | exact (ov_call rfl (fun w hw => c_isPixel _ w)) | exact (ov_call rfl (fun w hw => c_channel _ _ w (by omega))) | exact (ov_call rfl (fun w hw => c_ipart _ _ w)))) | (apply kCallB; (first | exact aBlt | exact aLenR)))) | (apply kOLoad; (first | exact aLdF | exact aLdR)) | exact ov_fieldAddr rfl | (apply kOIdx; (first | exact aIdx)) | exact aRest | exact aNew | exact (ov_field1 (ft := 31) rfl rfl rfl rfl))) | (refine kN ?_; (first | (refine kStore ?_; (first | refine s_store1 _ rfl rfl gpA rfl (by rfl) ?_ | refine s_storeS _ rfl rfl gpA rfl rfl (by rfl) ?_ | refine s_storeS _ rfl rfl gpA rfl (ones_img oiA) (by rfl) ?_)) | refine s_boxS rfl rfl (fun b hb => ?_) | refine s_allocS rfl (fun b hb => ?_) | refine s_box1 rfl rfl rfl (fun b hb => ?_) | refine s_alloc1 rfl rfl (fun b hb => ?_) | refine s_buildSlice0 rfl (fun b hb => ?_) | refine s_buildSlice rfl rfl rfl rfl rfl (fun b hb => ?_) | apply s_step)) | (refine kG ?_; (first | refine s_gyes rfl rfl rfl ?_ | refine s_gno rfl rfl rfl rfl rfl ?_ | ((first | refine s_split_d rfl rfl (fun h => ?_) (fun h => ?_) | refine s_split_n rfl rfl (fun h => ?_) (fun h => ?_)) <;> (try (first | contradiction | (exfalso; omega)))) | refine s_split_nb rfl rfl (fun h => ?_) (fun h => ?_) | refine s_split rfl rfl (fun h => ?_) (fun h => ?_))) | refine l_then ?_ | (refine kC ?_; (first | refine c_seq ?_ | refine c_regionN rfl ?_ | refine c_ret ?_ | (refine kCond ?_; (first | refine c_cond_t rfl ?_ | refine c_cond_f rfl ?_ | ((first | refine c_cond_d rfl (fun h => ?_) (fun h => ?_) | refine c_cond_n rfl (fun h => ?_) (fun h => ?_)) <;> (try (first | contradiction | (exfalso; omega)))) | refine c_cond_nb rfl (fun h => ?_) (fun h => ?_) | refine c_cond rfl (fun h => ?_) (fun h => ?_))) | refine c_block ?_ | refine c_skip ?_ | refine c_exit ?_ | refine c_regionQN rfl rfl (by decide +kernel) ?_)) | apply s_stepQ | (refine kQG ?_; (first | refine s_gyesQ rfl rfl rfl ?_ | refine s_gnoQ rfl rfl rfl rfl rfl ?_ | ((first | refine s_splitQ_d rfl rfl (fun h => ?_) (fun h => ?_) | refine s_splitQ_n rfl rfl (fun h => ?_) (fun h => ?_)) <;> (try (first | contradiction | (exfalso; omega)))) | refine s_splitQ_nb rfl rfl (fun h => ?_) (fun h => ?_) | refine s_splitQ rfl rfl (fun h => ?_) (fun h => ?_))) | refine lQ_then ?_ | refine lQ_ends ?_ | (refine kE ?_; (first | refine e_then_r ?_ | refine e_block_r ?_ | refine e_then_n ?_ | refine e_then_x ?_ | refine e_block_n ?_ | refine e_block_x ?_ | refine e_block_y rfl ?_)) | refine l_ends ?_)
  all_goals refine s_leave1 rfl rfl (fun w hw => ⟨?_, hw.below⟩)
  all_goals (refine ret_int ?_; unfold fade; first | (rw [if_neg (by simp only [pixP, byteP]; omega)]; done) | (rw [if_pos ⟨by unfold pixP; omega, by unfold byteP; omega⟩]; done) | (rw [if_pos ⟨by unfold pixP; omega, by unfold byteP; omega⟩]; omega))
theorem c_iscalePoint (f t k : Int) (w : World) : SYields Tryz.prog 191 #[.int .i64 f, .int .i64 t, .int .i64 k] (.int .i64 (scalePoint f t k)) w := by
  have hm := fun (h1 : 0 ≤ k ∧ k ≤ 15) (h2 : 0 ≤ f ∧ f ≤ 16) => mul_bd h1 h2
  (first | apply SYields.mk | apply SYieldsF.mk | skip); refine s_enter Tryz.func191 rfl Tryz.ntmps191 rfl ?_
  repeat' (first | exact rfl | (apply kO; (first | exact ov_pure rfl | (apply kOBin; (first | exact aBin | exact (ov_mul rfl rfl (by have := hm (by omega) (by omega); omega)) | exact (ov_quo rfl rfl (by have := hm (by omega) (by omega); omega)))) | (apply kOCall; (first | (apply kCallF; (first | exact (ov_call rfl (fun w hw => c_within _ _ _ w)) | exact (ov_call rfl (fun w hw => c_isSide _ w)))) | (apply kCallB; (first | exact aBlt | exact aLenR)))) | (apply kOLoad; (first | exact aLdF | exact aLdR)) | exact ov_fieldAddr rfl | (apply kOIdx; (first | exact aIdx)) | exact aRest | exact aNew | exact (ov_field1 (ft := 31) rfl rfl rfl rfl))) | (refine kN ?_; (first | (refine kStore ?_; (first | refine s_store1 _ rfl rfl gpA rfl (by rfl) ?_ | refine s_storeS _ rfl rfl gpA rfl rfl (by rfl) ?_ | refine s_storeS _ rfl rfl gpA rfl (ones_img oiA) (by rfl) ?_)) | refine s_boxS rfl rfl (fun b hb => ?_) | refine s_allocS rfl (fun b hb => ?_) | refine s_box1 rfl rfl rfl (fun b hb => ?_) | refine s_alloc1 rfl rfl (fun b hb => ?_) | refine s_buildSlice0 rfl (fun b hb => ?_) | refine s_buildSlice rfl rfl rfl rfl rfl (fun b hb => ?_) | apply s_step)) | (refine kG ?_; (first | refine s_gyes rfl rfl rfl ?_ | refine s_gno rfl rfl rfl rfl rfl ?_ | ((first | refine s_split_d rfl rfl (fun h => ?_) (fun h => ?_) | refine s_split_n rfl rfl (fun h => ?_) (fun h => ?_)) <;> (try (first | contradiction | (exfalso; omega)))) | refine s_split_nb rfl rfl (fun h => ?_) (fun h => ?_) | refine s_split rfl rfl (fun h => ?_) (fun h => ?_))) | refine l_then ?_ | (refine kC ?_; (first | refine c_seq ?_ | refine c_regionN rfl ?_ | refine c_ret ?_ | (refine kCond ?_; (first | refine c_cond_t rfl ?_ | refine c_cond_f rfl ?_ | ((first | refine c_cond_d rfl (fun h => ?_) (fun h => ?_) | refine c_cond_n rfl (fun h => ?_) (fun h => ?_)) <;> (try (first | contradiction | (exfalso; omega)))) | refine c_cond_nb rfl (fun h => ?_) (fun h => ?_) | refine c_cond rfl (fun h => ?_) (fun h => ?_))) | refine c_block ?_ | refine c_skip ?_ | refine c_exit ?_ | refine c_regionQN rfl rfl (by decide +kernel) ?_)) | apply s_stepQ | (refine kQG ?_; (first | refine s_gyesQ rfl rfl rfl ?_ | refine s_gnoQ rfl rfl rfl rfl rfl ?_ | ((first | refine s_splitQ_d rfl rfl (fun h => ?_) (fun h => ?_) | refine s_splitQ_n rfl rfl (fun h => ?_) (fun h => ?_)) <;> (try (first | contradiction | (exfalso; omega)))) | refine s_splitQ_nb rfl rfl (fun h => ?_) (fun h => ?_) | refine s_splitQ rfl rfl (fun h => ?_) (fun h => ?_))) | refine lQ_then ?_ | refine lQ_ends ?_ | (refine kE ?_; (first | refine e_then_r ?_ | refine e_block_r ?_ | refine e_then_n ?_ | refine e_then_x ?_ | refine e_block_n ?_ | refine e_block_x ?_ | refine e_block_y rfl ?_)) | refine l_ends ?_)
  all_goals refine s_leave1 rfl rfl (fun w hw => ⟨?_, hw.below⟩)
  all_goals (refine ret_int ?_; unfold scalePoint; first | (rw [if_neg (by omega)]; done) | rw [if_pos (by omega)])
theorem c_spart (a c : Int) (w : World) : SYields Tryz.prog 165 #[.int .i64 a, .int .i64 c] (.int .i64 (prt a c)) w := by
  have hm := fun (h1 : 0 ≤ a ∧ a ≤ 255) (h2 : 0 ≤ c ∧ c ≤ 255) => mul_bd h1 h2
  (first | apply SYields.mk | apply SYieldsF.mk | skip); refine s_enter Tryz.func165 rfl Tryz.ntmps165 rfl ?_
  repeat' (first | exact rfl | (apply kO; (first | exact ov_pure rfl | (apply kOBin; (first | exact aBin | exact (ov_mul rfl rfl (by have := hm (by omega) (by omega); omega)) | exact (ov_add rfl rfl (by have := hm (by omega) (by omega); omega)) | exact (ov_quo rfl rfl (by have := hm (by omega) (by omega); omega)))) | (apply kOCall; (first | (apply kCallF; (first | exact (ov_call rfl (fun w hw => c_l01In _ _ _ w)))) | (apply kCallB; (first | exact aBlt | exact aLenR)))) | (apply kOLoad; (first | exact aLdF | exact aLdR)) | exact ov_fieldAddr rfl | (apply kOIdx; (first | exact aIdx)) | exact aRest | exact aNew | exact (ov_field1 (ft := 31) rfl rfl rfl rfl))) | (refine kN ?_; (first | (refine kStore ?_; (first | refine s_store1 _ rfl rfl gpA rfl (by rfl) ?_ | refine s_storeS _ rfl rfl gpA rfl rfl (by rfl) ?_ | refine s_storeS _ rfl rfl gpA rfl (ones_img oiA) (by rfl) ?_)) | refine s_boxS rfl rfl (fun b hb => ?_) | refine s_allocS rfl (fun b hb => ?_) | refine s_box1 rfl rfl rfl (fun b hb => ?_) | refine s_alloc1 rfl rfl (fun b hb => ?_) | refine s_buildSlice0 rfl (fun b hb => ?_) | refine s_buildSlice rfl rfl rfl rfl rfl (fun b hb => ?_) | apply s_step)) | (refine kG ?_; (first | refine s_gyes rfl rfl rfl ?_ | refine s_gno rfl rfl rfl rfl rfl ?_ | ((first | refine s_split_d rfl rfl (fun h => ?_) (fun h => ?_) | refine s_split_n rfl rfl (fun h => ?_) (fun h => ?_)) <;> (try (first | contradiction | (exfalso; omega)))) | refine s_split_nb rfl rfl (fun h => ?_) (fun h => ?_) | refine s_split rfl rfl (fun h => ?_) (fun h => ?_))) | refine l_then ?_ | (refine kC ?_; (first | refine c_seq ?_ | refine c_regionN rfl ?_ | refine c_ret ?_ | (refine kCond ?_; (first | refine c_cond_t rfl ?_ | refine c_cond_f rfl ?_ | ((first | refine c_cond_d rfl (fun h => ?_) (fun h => ?_) | refine c_cond_n rfl (fun h => ?_) (fun h => ?_)) <;> (try (first | contradiction | (exfalso; omega)))) | refine c_cond_nb rfl (fun h => ?_) (fun h => ?_) | refine c_cond rfl (fun h => ?_) (fun h => ?_))) | refine c_block ?_ | refine c_skip ?_ | refine c_exit ?_ | refine c_regionQN rfl rfl (by decide +kernel) ?_)) | apply s_stepQ | (refine kQG ?_; (first | refine s_gyesQ rfl rfl rfl ?_ | refine s_gnoQ rfl rfl rfl rfl rfl ?_ | ((first | refine s_splitQ_d rfl rfl (fun h => ?_) (fun h => ?_) | refine s_splitQ_n rfl rfl (fun h => ?_) (fun h => ?_)) <;> (try (first | contradiction | (exfalso; omega)))) | refine s_splitQ_nb rfl rfl (fun h => ?_) (fun h => ?_) | refine s_splitQ rfl rfl (fun h => ?_) (fun h => ?_))) | refine lQ_then ?_ | refine lQ_ends ?_ | (refine kE ?_; (first | refine e_then_r ?_ | refine e_block_r ?_ | refine e_then_n ?_ | refine e_then_x ?_ | refine e_block_n ?_ | refine e_block_x ?_ | refine e_block_y rfl ?_)) | refine l_ends ?_)
  all_goals refine s_leave1 rfl rfl (fun w hw => ⟨?_, hw.below⟩)
  all_goals (refine ret_int ?_; unfold prt byteP; first | (rw [if_neg (by omega)]; done) | rw [if_pos ⟨by omega, by omega⟩])
theorem c_sfade (p a : Int) (w : World) : SYields Tryz.prog 163 #[.int .i64 p, .int .i64 a] (.int .i64 (fade p a)) w := by
  have hp := fun (h : byteP a) => prt_bd (chan_bd p 0) h
  (first | apply SYields.mk | apply SYieldsF.mk | skip); refine s_enter Tryz.func163 rfl Tryz.ntmps163 rfl ?_
  repeat' (first | exact rfl | (apply kO; (first | exact ov_pure rfl | (apply kOBin; (first | exact aBin | exact (ov_shlN 24 16777216 (by decide) (by decide) rfl rfl (by have := hp (by unfold byteP; omega); omega)) | exact (ov_orS 24 (p := 16777216) (by decide) rfl rfl (by have := hp (by unfold byteP; omega); omega) (by omega)) | exact (ov_add rfl rfl (by have := hp (by unfold byteP; omega); omega)))) | (apply kOCall; (first | (apply kCallF; (first | exact (ov_call rfl (fun w hw => c_l01In _ _ _ w)) | exact (ov_call rfl (fun w hw => c_l04Pixel _ w)) | exact (ov_call rfl (fun w hw => c_schannelIn _ _ w (by omega) (by omega))) | exact (ov_call rfl (fun w hw => c_spart _ _ w)))) | (apply kCallB; (first | exact aBlt | exact aLenR)))) | (apply kOLoad; (first | exact aLdF | exact aLdR)) | exact ov_fieldAddr rfl | (apply kOIdx; (first | exact aIdx)) | exact aRest | exact aNew | exact (ov_field1 (ft := 31) rfl rfl rfl rfl))) | (refine kN ?_; (first | (refine kStore ?_; (first | refine s_store1 _ rfl rfl gpA rfl (by rfl) ?_ | refine s_storeS _ rfl rfl gpA rfl rfl (by rfl) ?_ | refine s_storeS _ rfl rfl gpA rfl (ones_img oiA) (by rfl) ?_)) | refine s_boxS rfl rfl (fun b hb => ?_) | refine s_allocS rfl (fun b hb => ?_) | refine s_box1 rfl rfl rfl (fun b hb => ?_) | refine s_alloc1 rfl rfl (fun b hb => ?_) | refine s_buildSlice0 rfl (fun b hb => ?_) | refine s_buildSlice rfl rfl rfl rfl rfl (fun b hb => ?_) | apply s_step)) | (refine kG ?_; (first | refine s_gyes rfl rfl rfl ?_ | refine s_gno rfl rfl rfl rfl rfl ?_ | ((first | refine s_split_d rfl rfl (fun h => ?_) (fun h => ?_) | refine s_split_n rfl rfl (fun h => ?_) (fun h => ?_)) <;> (try (first | contradiction | (exfalso; omega)))) | refine s_split_nb rfl rfl (fun h => ?_) (fun h => ?_) | refine s_split rfl rfl (fun h => ?_) (fun h => ?_))) | refine l_then ?_ | (refine kC ?_; (first | refine c_seq ?_ | refine c_regionN rfl ?_ | refine c_ret ?_ | (refine kCond ?_; (first | refine c_cond_t rfl ?_ | refine c_cond_f rfl ?_ | ((first | refine c_cond_d rfl (fun h => ?_) (fun h => ?_) | refine c_cond_n rfl (fun h => ?_) (fun h => ?_)) <;> (try (first | contradiction | (exfalso; omega)))) | refine c_cond_nb rfl (fun h => ?_) (fun h => ?_) | refine c_cond rfl (fun h => ?_) (fun h => ?_))) | refine c_block ?_ | refine c_skip ?_ | refine c_exit ?_ | refine c_regionQN rfl rfl (by decide +kernel) ?_)) | apply s_stepQ | (refine kQG ?_; (first | refine s_gyesQ rfl rfl rfl ?_ | refine s_gnoQ rfl rfl rfl rfl rfl ?_ | ((first | refine s_splitQ_d rfl rfl (fun h => ?_) (fun h => ?_) | refine s_splitQ_n rfl rfl (fun h => ?_) (fun h => ?_)) <;> (try (first | contradiction | (exfalso; omega)))) | refine s_splitQ_nb rfl rfl (fun h => ?_) (fun h => ?_) | refine s_splitQ rfl rfl (fun h => ?_) (fun h => ?_))) | refine lQ_then ?_ | refine lQ_ends ?_ | (refine kE ?_; (first | refine e_then_r ?_ | refine e_block_r ?_ | refine e_then_n ?_ | refine e_then_x ?_ | refine e_block_n ?_ | refine e_block_x ?_ | refine e_block_y rfl ?_)) | refine l_ends ?_)
  all_goals refine s_leave1 rfl rfl (fun w hw => ⟨?_, hw.below⟩)
  all_goals (refine ret_int ?_; unfold fade; first | (rw [if_neg (by simp only [pixP, byteP]; omega)]; done) | (rw [if_pos ⟨by unfold pixP; omega, by unfold byteP; omega⟩]; done) | (rw [if_pos ⟨by unfold pixP; omega, by unfold byteP; omega⟩]; omega))
theorem c_sscalePoint (f t k : Int) (w : World) : SYields Tryz.prog 180 #[.int .i64 f, .int .i64 t, .int .i64 k] (.int .i64 (scalePoint f t k)) w := by
  have hm := fun (h1 : 0 ≤ k ∧ k ≤ 15) (h2 : 0 ≤ f ∧ f ≤ 16) => mul_bd h1 h2
  (first | apply SYields.mk | apply SYieldsF.mk | skip); refine s_enter Tryz.func180 rfl Tryz.ntmps180 rfl ?_
  repeat' (first | exact rfl | (apply kO; (first | exact ov_pure rfl | (apply kOBin; (first | exact aBin | exact (ov_mul rfl rfl (by have := hm (by omega) (by omega); omega)) | exact (ov_quo rfl rfl (by have := hm (by omega) (by omega); omega)))) | (apply kOCall; (first | (apply kCallF; (first | exact (ov_call rfl (fun w hw => c_l01In _ _ _ w)))) | (apply kCallB; (first | exact aBlt | exact aLenR)))) | (apply kOLoad; (first | exact aLdF | exact aLdR)) | exact ov_fieldAddr rfl | (apply kOIdx; (first | exact aIdx)) | exact aRest | exact aNew | exact (ov_field1 (ft := 31) rfl rfl rfl rfl))) | (refine kN ?_; (first | (refine kStore ?_; (first | refine s_store1 _ rfl rfl gpA rfl (by rfl) ?_ | refine s_storeS _ rfl rfl gpA rfl rfl (by rfl) ?_ | refine s_storeS _ rfl rfl gpA rfl (ones_img oiA) (by rfl) ?_)) | refine s_boxS rfl rfl (fun b hb => ?_) | refine s_allocS rfl (fun b hb => ?_) | refine s_box1 rfl rfl rfl (fun b hb => ?_) | refine s_alloc1 rfl rfl (fun b hb => ?_) | refine s_buildSlice0 rfl (fun b hb => ?_) | refine s_buildSlice rfl rfl rfl rfl rfl (fun b hb => ?_) | apply s_step)) | (refine kG ?_; (first | refine s_gyes rfl rfl rfl ?_ | refine s_gno rfl rfl rfl rfl rfl ?_ | ((first | refine s_split_d rfl rfl (fun h => ?_) (fun h => ?_) | refine s_split_n rfl rfl (fun h => ?_) (fun h => ?_)) <;> (try (first | contradiction | (exfalso; omega)))) | refine s_split_nb rfl rfl (fun h => ?_) (fun h => ?_) | refine s_split rfl rfl (fun h => ?_) (fun h => ?_))) | refine l_then ?_ | (refine kC ?_; (first | refine c_seq ?_ | refine c_regionN rfl ?_ | refine c_ret ?_ | (refine kCond ?_; (first | refine c_cond_t rfl ?_ | refine c_cond_f rfl ?_ | ((first | refine c_cond_d rfl (fun h => ?_) (fun h => ?_) | refine c_cond_n rfl (fun h => ?_) (fun h => ?_)) <;> (try (first | contradiction | (exfalso; omega)))) | refine c_cond_nb rfl (fun h => ?_) (fun h => ?_) | refine c_cond rfl (fun h => ?_) (fun h => ?_))) | refine c_block ?_ | refine c_skip ?_ | refine c_exit ?_ | refine c_regionQN rfl rfl (by decide +kernel) ?_)) | apply s_stepQ | (refine kQG ?_; (first | refine s_gyesQ rfl rfl rfl ?_ | refine s_gnoQ rfl rfl rfl rfl rfl ?_ | ((first | refine s_splitQ_d rfl rfl (fun h => ?_) (fun h => ?_) | refine s_splitQ_n rfl rfl (fun h => ?_) (fun h => ?_)) <;> (try (first | contradiction | (exfalso; omega)))) | refine s_splitQ_nb rfl rfl (fun h => ?_) (fun h => ?_) | refine s_splitQ rfl rfl (fun h => ?_) (fun h => ?_))) | refine lQ_then ?_ | refine lQ_ends ?_ | (refine kE ?_; (first | refine e_then_r ?_ | refine e_block_r ?_ | refine e_then_n ?_ | refine e_then_x ?_ | refine e_block_n ?_ | refine e_block_x ?_ | refine e_block_y rfl ?_)) | refine l_ends ?_)
  all_goals refine s_leave1 rfl rfl (fun w hw => ⟨?_, hw.below⟩)
  all_goals (refine ret_int ?_; unfold scalePoint; first | (rw [if_neg (by omega)]; done) | rw [if_pos (by omega)])
theorem c_iorientPoint (wd ht o x y : Int) (W : World) : SYields Tryz.prog 188 #[.int .i64 wd, .int .i64 ht, .int .i64 o, .int .i64 x, .int .i64 y] (.tuple #[.int .i64 (orientPoint wd ht o x y).1, .int .i64 (orientPoint wd ht o x y).2]) W := by
  by_cases hok : orientOk wd ht o ∧ (0 ≤ x ∧ x ≤ wd - 1) ∧ (0 ≤ y ∧ y ≤ ht - 1)
  · have hok' := hok
    unfold orientOk at hok'
    obtain ⟨⟨hw0, hh0, ho0⟩, hx0, hy0⟩ := hok'
    have b1 := fun k => o_bd hw0 hh0 hx0 hy0 k
    have b2 := fun k => o_bd (x := wd - 1 - x) hw0 hh0 (by omega) hy0 k
    have hm : (o % 4).toNat ≤ 3 := by omega
    (first | apply SYields.mk | apply SYieldsF.mk | skip); refine s_enter Tryz.func188 rfl Tryz.ntmps188 rfl ?_
    repeat' (first | exact rfl | (apply kO; (first | exact ov_pure rfl | (apply kOBin; (first | exact aBin | exact (ov_sub rfl rfl (by first | omega | (have := b1 k; have := b2 k; omega))))) | (apply kOCall; (first | (apply kCallF; (first | exact (ov_call rfl (fun w hw => c_isSide _ w)) | exact (ov_call rfl (fun w hw => c_isOrient _ w)) | exact (ov_call rfl (fun w hw => c_within _ _ _ w)))) | (apply kCallB; (first | exact aBlt | exact aLenR)))) | (apply kOLoad; (first | exact aLdF | exact aLdR)) | exact ov_fieldAddr rfl | (apply kOIdx; (first | exact aIdx)) | exact aRest | exact aNew | exact (ov_field1 (ft := 31) rfl rfl rfl rfl))) | (refine kN ?_; (first | (refine kStore ?_; (first | refine s_store1 _ rfl rfl gpA rfl (by rfl) ?_ | refine s_storeS _ rfl rfl gpA rfl rfl (by rfl) ?_ | refine s_storeS _ rfl rfl gpA rfl (ones_img oiA) (by rfl) ?_)) | refine s_boxS rfl rfl (fun b hb => ?_) | refine s_allocS rfl (fun b hb => ?_) | refine s_box1 rfl rfl rfl (fun b hb => ?_) | refine s_alloc1 rfl rfl (fun b hb => ?_) | refine s_buildSlice0 rfl (fun b hb => ?_) | refine s_buildSlice rfl rfl rfl rfl rfl (fun b hb => ?_) | apply s_step)) | (refine kG ?_; (first | refine s_gyes rfl rfl rfl ?_ | refine s_gno rfl rfl rfl rfl rfl ?_ | ((first | refine s_split_d rfl rfl (fun h => ?_) (fun h => ?_) | refine s_split_n rfl rfl (fun h => ?_) (fun h => ?_)) <;> (try (first | contradiction | (exfalso; omega)))) | refine s_split_nb rfl rfl (fun h => ?_) (fun h => ?_) | refine s_split rfl rfl (fun h => ?_) (fun h => ?_))) | refine l_then ?_ | (refine kC ?_; (first | (refine c_loopV (ι := Nat) (fun k => k ≤ (o % 4).toNat) (fun k => [(3, .int .i64 (oX wd ht (wd - 1 - x) y k)), (4, .int .i64 (oY wd ht (wd - 1 - x) y k)), (0, .int .i64 (oW wd ht k)), (1, .int .i64 (oW ht wd k)), (47, .int .i64 (k : Int))]) (fun _ => []) (fun k => (o % 4).toNat - k) 0 (by omega) rfl (fun _ => rfl) ⟨rfl, rfl, rfl, rfl, rfl, trivial⟩ (fun w hw => hw) (fun k hk => ?_)) | (refine c_loopV (ι := Nat) (fun k => k ≤ (o % 4).toNat) (fun k => [(3, .int .i64 (oX wd ht x y k)), (4, .int .i64 (oY wd ht x y k)), (0, .int .i64 (oW wd ht k)), (1, .int .i64 (oW ht wd k)), (47, .int .i64 (k : Int))]) (fun _ => []) (fun k => (o % 4).toNat - k) 0 (by omega) rfl (fun _ => rfl) ⟨rfl, rfl, rfl, rfl, rfl, trivial⟩ (fun w hw => hw) (fun k hk => ?_)) | refine c_seq ?_ | refine c_regionN rfl ?_ | refine c_ret ?_ | (refine kCond ?_; (first | refine c_cond_t rfl ?_ | refine c_cond_f rfl ?_ | ((first | refine c_cond_d rfl (fun h => ?_) (fun h => ?_) | refine c_cond_n rfl (fun h => ?_) (fun h => ?_)) <;> (try (first | contradiction | (exfalso; omega)))) | refine c_cond_nb rfl (fun h => ?_) (fun h => ?_) | refine c_cond rfl (fun h => ?_) (fun h => ?_))) | refine c_block ?_ | refine c_skip ?_ | refine c_exit ?_ | refine c_regionQN rfl rfl (by decide +kernel) ?_)) | apply s_stepQ | (refine kQG ?_; (first | refine s_gyesQ rfl rfl rfl ?_ | refine s_gnoQ rfl rfl rfl rfl rfl ?_ | ((first | refine s_splitQ_d rfl rfl (fun h => ?_) (fun h => ?_) | refine s_splitQ_n rfl rfl (fun h => ?_) (fun h => ?_)) <;> (try (first | contradiction | (exfalso; omega)))) | refine s_splitQ_nb rfl rfl (fun h => ?_) (fun h => ?_) | refine s_splitQ rfl rfl (fun h => ?_) (fun h => ?_))) | refine lQ_then ?_ | refine lQ_ends ?_ | (refine kE ?_; (first | refine e_then_r ?_ | refine e_block_r ?_ | refine e_then_n ?_ | refine e_then_x ?_ | refine e_block_n ?_ | refine e_block_x ?_ | refine e_block_y rfl ?_)) | refine l_ends ?_)
    all_goals first | exact e_round (k + 1) (by omega) ⟨slook_to rfl (vint_to (o_next _ _ _ _ k (by omega)).1.symm), slook_to rfl (vint_to (o_next _ _ _ _ k (by omega)).2.1.symm), slook_to rfl (vint_to (o_next wd ht (wd - 1 - x) y k (by omega)).2.2.1.symm), slook_to rfl (vint_to (o_next wd ht (wd - 1 - x) y k (by omega)).2.2.2.symm), rfl, (by repeat' first | exact trivial | refine ⟨rfl, ?_⟩)⟩ (fun w hw => hw) (by omega) | skip
    all_goals (have hk' : k = (o % 4).toNat := by omega)
    all_goals refine s_leave2 rfl rfl rfl (fun w hw => ⟨ret_pair ?_ ?_, hw.below⟩)
    all_goals (rw [hk', orientPoint, if_pos hok, orientPt_turns ho0]; first | rw [if_pos (by omega)] | rw [if_neg (by omega)])
  · have hok2 := hok
    unfold orientOk at hok2
    (first | apply SYields.mk | apply SYieldsF.mk | skip); refine s_enter Tryz.func188 rfl Tryz.ntmps188 rfl ?_
    repeat' (first | exact rfl | (apply kO; (first | exact ov_pure rfl | (apply kOBin; (first | exact aBin | exact (ov_sub rfl rfl (by omega)))) | (apply kOCall; (first | (apply kCallF; (first | exact (ov_call rfl (fun w hw => c_isSide _ w)) | exact (ov_call rfl (fun w hw => c_isOrient _ w)) | exact (ov_call rfl (fun w hw => c_within _ _ _ w)))) | (apply kCallB; (first | exact aBlt | exact aLenR)))) | (apply kOLoad; (first | exact aLdF | exact aLdR)) | exact ov_fieldAddr rfl | (apply kOIdx; (first | exact aIdx)) | exact aRest | exact aNew | exact (ov_field1 (ft := 31) rfl rfl rfl rfl))) | (refine kN ?_; (first | (refine kStore ?_; (first | refine s_store1 _ rfl rfl gpA rfl (by rfl) ?_ | refine s_storeS _ rfl rfl gpA rfl rfl (by rfl) ?_ | refine s_storeS _ rfl rfl gpA rfl (ones_img oiA) (by rfl) ?_)) | refine s_boxS rfl rfl (fun b hb => ?_) | refine s_allocS rfl (fun b hb => ?_) | refine s_box1 rfl rfl rfl (fun b hb => ?_) | refine s_alloc1 rfl rfl (fun b hb => ?_) | refine s_buildSlice0 rfl (fun b hb => ?_) | refine s_buildSlice rfl rfl rfl rfl rfl (fun b hb => ?_) | apply s_step)) | (refine kG ?_; (first | refine s_gyes rfl rfl rfl ?_ | refine s_gno rfl rfl rfl rfl rfl ?_ | ((first | refine s_split_d rfl rfl (fun h => ?_) (fun h => ?_) | refine s_split_n rfl rfl (fun h => ?_) (fun h => ?_)) <;> (try (first | contradiction | (exfalso; omega)))) | refine s_split_nb rfl rfl (fun h => ?_) (fun h => ?_) | refine s_split rfl rfl (fun h => ?_) (fun h => ?_))) | refine l_then ?_ | (refine kC ?_; (first | refine c_seq ?_ | refine c_regionN rfl ?_ | refine c_ret ?_ | (refine kCond ?_; (first | refine c_cond_t rfl ?_ | refine c_cond_f rfl ?_ | ((first | refine c_cond_d rfl (fun h => ?_) (fun h => ?_) | refine c_cond_n rfl (fun h => ?_) (fun h => ?_)) <;> (try (first | contradiction | (exfalso; omega)))) | refine c_cond_nb rfl (fun h => ?_) (fun h => ?_) | refine c_cond rfl (fun h => ?_) (fun h => ?_))) | refine c_block ?_ | refine c_skip ?_ | refine c_exit ?_ | refine c_regionQN rfl rfl (by decide +kernel) ?_)) | apply s_stepQ | (refine kQG ?_; (first | refine s_gyesQ rfl rfl rfl ?_ | refine s_gnoQ rfl rfl rfl rfl rfl ?_ | ((first | refine s_splitQ_d rfl rfl (fun h => ?_) (fun h => ?_) | refine s_splitQ_n rfl rfl (fun h => ?_) (fun h => ?_)) <;> (try (first | contradiction | (exfalso; omega)))) | refine s_splitQ_nb rfl rfl (fun h => ?_) (fun h => ?_) | refine s_splitQ rfl rfl (fun h => ?_) (fun h => ?_))) | refine lQ_then ?_ | refine lQ_ends ?_ | (refine kE ?_; (first | refine e_then_r ?_ | refine e_block_r ?_ | refine e_then_n ?_ | refine e_then_x ?_ | refine e_block_n ?_ | refine e_block_x ?_ | refine e_block_y rfl ?_)) | refine l_ends ?_)
    all_goals refine s_leave2 rfl rfl rfl (fun w hw => ⟨?_, hw.below⟩)
    all_goals (unfold orientPoint; rw [if_neg hok])
theorem c_sorientPoint (wd ht o x y : Int) (W : World) : SYields Tryz.prog 179 #[.int .i64 wd, .int .i64 ht, .int .i64 o, .int .i64 x, .int .i64 y] (.tuple #[.int .i64 (orientPoint wd ht o x y).1, .int .i64 (orientPoint wd ht o x y).2]) W := by
  by_cases hok : orientOk wd ht o ∧ (0 ≤ x ∧ x ≤ wd - 1) ∧ (0 ≤ y ∧ y ≤ ht - 1)
  · have hok' := hok
    unfold orientOk at hok'
    obtain ⟨⟨hw0, hh0, ho0⟩, hx0, hy0⟩ := hok'
    have b1 := fun k => o_bd hw0 hh0 hx0 hy0 k
    have b2 := fun k => o_bd (x := wd - 1 - x) hw0 hh0 (by omega) hy0 k
    have hm : (o % 4).toNat ≤ 3 := by omega
    (first | apply SYields.mk | apply SYieldsF.mk | skip); refine s_enter Tryz.func179 rfl Tryz.ntmps179 rfl ?_
    repeat' (first | exact rfl | (apply kO; (first | exact ov_pure rfl | (apply kOBin; (first | exact aBin | exact (ov_sub rfl rfl (by first | omega | (have := b1 k; have := b2 k; omega))))) | (apply kOCall; (first | (apply kCallF; (first | exact (ov_call rfl (fun w hw => c_l01In _ _ _ w)))) | (apply kCallB; (first | exact aBlt | exact aLenR)))) | (apply kOLoad; (first | exact aLdF | exact aLdR)) | exact ov_fieldAddr rfl | (apply kOIdx; (first | exact aIdx)) | exact aRest | exact aNew | exact (ov_field1 (ft := 31) rfl rfl rfl rfl))) | (refine kN ?_; (first | (refine kStore ?_; (first | refine s_store1 _ rfl rfl gpA rfl (by rfl) ?_ | refine s_storeS _ rfl rfl gpA rfl rfl (by rfl) ?_ | refine s_storeS _ rfl rfl gpA rfl (ones_img oiA) (by rfl) ?_)) | refine s_boxS rfl rfl (fun b hb => ?_) | refine s_allocS rfl (fun b hb => ?_) | refine s_box1 rfl rfl rfl (fun b hb => ?_) | refine s_alloc1 rfl rfl (fun b hb => ?_) | refine s_buildSlice0 rfl (fun b hb => ?_) | refine s_buildSlice rfl rfl rfl rfl rfl (fun b hb => ?_) | apply s_step)) | (refine kG ?_; (first | refine s_gyes rfl rfl rfl ?_ | refine s_gno rfl rfl rfl rfl rfl ?_ | ((first | refine s_split_d rfl rfl (fun h => ?_) (fun h => ?_) | refine s_split_n rfl rfl (fun h => ?_) (fun h => ?_)) <;> (try (first | contradiction | (exfalso; omega)))) | refine s_split_nb rfl rfl (fun h => ?_) (fun h => ?_) | refine s_split rfl rfl (fun h => ?_) (fun h => ?_))) | refine l_then ?_ | (refine kC ?_; (first | (refine c_loopV (ι := Nat) (fun k => k ≤ (o % 4).toNat) (fun k => [(3, .int .i64 (oX wd ht (wd - 1 - x) y k)), (4, .int .i64 (oY wd ht (wd - 1 - x) y k)), (0, .int .i64 (oW wd ht k)), (1, .int .i64 (oW ht wd k)), (12, .int .i64 (k : Int))]) (fun _ => []) (fun k => (o % 4).toNat - k) 0 (by omega) rfl (fun _ => rfl) ⟨rfl, rfl, rfl, rfl, rfl, trivial⟩ (fun w hw => hw) (fun k hk => ?_)) | (refine c_loopV (ι := Nat) (fun k => k ≤ (o % 4).toNat) (fun k => [(3, .int .i64 (oX wd ht x y k)), (4, .int .i64 (oY wd ht x y k)), (0, .int .i64 (oW wd ht k)), (1, .int .i64 (oW ht wd k)), (12, .int .i64 (k : Int))]) (fun _ => []) (fun k => (o % 4).toNat - k) 0 (by omega) rfl (fun _ => rfl) ⟨rfl, rfl, rfl, rfl, rfl, trivial⟩ (fun w hw => hw) (fun k hk => ?_)) | refine c_seq ?_ | refine c_regionN rfl ?_ | refine c_ret ?_ | (refine kCond ?_; (first | refine c_cond_t rfl ?_ | refine c_cond_f rfl ?_ | ((first | refine c_cond_d rfl (fun h => ?_) (fun h => ?_) | refine c_cond_n rfl (fun h => ?_) (fun h => ?_)) <;> (try (first | contradiction | (exfalso; omega)))) | refine c_cond_nb rfl (fun h => ?_) (fun h => ?_) | refine c_cond rfl (fun h => ?_) (fun h => ?_))) | refine c_block ?_ | refine c_skip ?_ | refine c_exit ?_ | refine c_regionQN rfl rfl (by decide +kernel) ?_)) | apply s_stepQ | (refine kQG ?_; (first | refine s_gyesQ rfl rfl rfl ?_ | refine s_gnoQ rfl rfl rfl rfl rfl ?_ | ((first | refine s_splitQ_d rfl rfl (fun h => ?_) (fun h => ?_) | refine s_splitQ_n rfl rfl (fun h => ?_) (fun h => ?_)) <;> (try (first | contradiction | (exfalso; omega)))) | refine s_splitQ_nb rfl rfl (fun h => ?_) (fun h => ?_) | refine s_splitQ rfl rfl (fun h => ?_) (fun h => ?_))) | refine lQ_then ?_ | refine lQ_ends ?_ | (refine kE ?_; (first | refine e_then_r ?_ | refine e_block_r ?_ | refine e_then_n ?_ | refine e_then_x ?_ | refine e_block_n ?_ | refine e_block_x ?_ | refine e_block_y rfl ?_)) | refine l_ends ?_)
    all_goals first | exact e_round (k + 1) (by omega) ⟨slook_to rfl (vint_to (o_next _ _ _ _ k (by omega)).1.symm), slook_to rfl (vint_to (o_next _ _ _ _ k (by omega)).2.1.symm), slook_to rfl (vint_to (o_next wd ht (wd - 1 - x) y k (by omega)).2.2.1.symm), slook_to rfl (vint_to (o_next wd ht (wd - 1 - x) y k (by omega)).2.2.2.symm), rfl, (by repeat' first | exact trivial | refine ⟨rfl, ?_⟩)⟩ (fun w hw => hw) (by omega) | skip
    all_goals (have hk' : k = (o % 4).toNat := by omega)
    all_goals refine s_leave2 rfl rfl rfl (fun w hw => ⟨ret_pair ?_ ?_, hw.below⟩)
    all_goals (rw [hk', orientPoint, if_pos hok, orientPt_turns ho0]; first | rw [if_pos (by omega)] | rw [if_neg (by omega)])
  · have hok2 := hok
    unfold orientOk at hok2
    (first | apply SYields.mk | apply SYieldsF.mk | skip); refine s_enter Tryz.func179 rfl Tryz.ntmps179 rfl ?_
    repeat' (first | exact rfl | (apply kO; (first | exact ov_pure rfl | (apply kOBin; (first | exact aBin | exact (ov_sub rfl rfl (by omega)))) | (apply kOCall; (first | (apply kCallF; (first | exact (ov_call rfl (fun w hw => c_l01In _ _ _ w)))) | (apply kCallB; (first | exact aBlt | exact aLenR)))) | (apply kOLoad; (first | exact aLdF | exact aLdR)) | exact ov_fieldAddr rfl | (apply kOIdx; (first | exact aIdx)) | exact aRest | exact aNew | exact (ov_field1 (ft := 31) rfl rfl rfl rfl))) | (refine kN ?_; (first | (refine kStore ?_; (first | refine s_store1 _ rfl rfl gpA rfl (by rfl) ?_ | refine s_storeS _ rfl rfl gpA rfl rfl (by rfl) ?_ | refine s_storeS _ rfl rfl gpA rfl (ones_img oiA) (by rfl) ?_)) | refine s_boxS rfl rfl (fun b hb => ?_) | refine s_allocS rfl (fun b hb => ?_) | refine s_box1 rfl rfl rfl (fun b hb => ?_) | refine s_alloc1 rfl rfl (fun b hb => ?_) | refine s_buildSlice0 rfl (fun b hb => ?_) | refine s_buildSlice rfl rfl rfl rfl rfl (fun b hb => ?_) | apply s_step)) | (refine kG ?_; (first | refine s_gyes rfl rfl rfl ?_ | refine s_gno rfl rfl rfl rfl rfl ?_ | ((first | refine s_split_d rfl rfl (fun h => ?_) (fun h => ?_) | refine s_split_n rfl rfl (fun h => ?_) (fun h => ?_)) <;> (try (first | contradiction | (exfalso; omega)))) | refine s_split_nb rfl rfl (fun h => ?_) (fun h => ?_) | refine s_split rfl rfl (fun h => ?_) (fun h => ?_))) | refine l_then ?_ | (refine kC ?_; (first | refine c_seq ?_ | refine c_regionN rfl ?_ | refine c_ret ?_ | (refine kCond ?_; (first | refine c_cond_t rfl ?_ | refine c_cond_f rfl ?_ | ((first | refine c_cond_d rfl (fun h => ?_) (fun h => ?_) | refine c_cond_n rfl (fun h => ?_) (fun h => ?_)) <;> (try (first | contradiction | (exfalso; omega)))) | refine c_cond_nb rfl (fun h => ?_) (fun h => ?_) | refine c_cond rfl (fun h => ?_) (fun h => ?_))) | refine c_block ?_ | refine c_skip ?_ | refine c_exit ?_ | refine c_regionQN rfl rfl (by decide +kernel) ?_)) | apply s_stepQ | (refine kQG ?_; (first | refine s_gyesQ rfl rfl rfl ?_ | refine s_gnoQ rfl rfl rfl rfl rfl ?_ | ((first | refine s_splitQ_d rfl rfl (fun h => ?_) (fun h => ?_) | refine s_splitQ_n rfl rfl (fun h => ?_) (fun h => ?_)) <;> (try (first | contradiction | (exfalso; omega)))) | refine s_splitQ_nb rfl rfl (fun h => ?_) (fun h => ?_) | refine s_splitQ rfl rfl (fun h => ?_) (fun h => ?_))) | refine lQ_then ?_ | refine lQ_ends ?_ | (refine kE ?_; (first | refine e_then_r ?_ | refine e_block_r ?_ | refine e_then_n ?_ | refine e_then_x ?_ | refine e_block_n ?_ | refine e_block_x ?_ | refine e_block_y rfl ?_)) | refine l_ends ?_)
    all_goals refine s_leave2 rfl rfl rfl (fun w hw => ⟨?_, hw.below⟩)
    all_goals (unfold orientPoint; rw [if_neg hok])
end Go.Proofs.YtakijgpoaeggnaaGreat
/-
  Contracts: a pixel over another one; new images.
-/
set_option linter.unusedVariables false
namespace Go.Proofs.YtakijgpoaeggnaaGreat
open Go Sx
attribute [local irreducible] Exit.then Exit.inBlock bodyPost
def ovk (t c : Int) : Nat → Int
  | 0 => 255
  | k + 1 => ovk t c k * 256 + (prt (chan t ((k : Int) + 1)) (chan t 0) + prt (chan c ((k : Int) + 1)) (255 - chan t 0))
theorem ovk_succ (t c : Int) (k : Nat) : ovk t c (k + 1) = ovk t c k * 256 + (prt (chan t ((k : Int) + 1)) (chan t 0) + prt (chan c ((k : Int) + 1)) (255 - chan t 0)) := rfl
theorem ovk_three {t c : Int} (ht : pixP t) (hc : pixP c) : ovk t c 3 = over t c := by unfold over; rw [if_pos ⟨ht, hc⟩]; rfl
theorem ovp_bd (t c k : Int) : (0 ≤ prt (chan t k) (chan t 0) ∧ prt (chan t k) (chan t 0) ≤ chan t 0) ∧ (0 ≤ prt (chan c k) (255 - chan t 0) ∧ prt (chan c k) (255 - chan t 0) ≤ 255 - chan t 0) ∧ (0 ≤ chan t 0 ∧ chan t 0 ≤ 255) := by
  have h0 := chan_bd t 0
  have h255 : byteP (255 - chan t 0) := by unfold byteP; omega
  have h1 := prt_bd (chan_bd t k) (chan_bd t 0)
  have h2 := prt_bd (chan_bd c k) h255
  exact ⟨h1.2, h2.2, h0⟩
theorem ovk_bd (t c : Int) {k : Nat} (hk : k ≤ 2) : 0 ≤ ovk t c k ∧ ovk t c k ≤ 16777215 := by
  have a := ovp_bd t c 1
  have d := ovp_bd t c 2
  have e1 : ovk t c 1 = 255 * 256 + (prt (chan t 1) (chan t 0) + prt (chan c 1) (255 - chan t 0)) := rfl
  have e2 : ovk t c 2 = ovk t c 1 * 256 + (prt (chan t 2) (chan t 0) + prt (chan c 2) (255 - chan t 0)) := rfl
  match k, hk with
  | 0, _ => exact ⟨show (0 : Int) ≤ 255 by decide, show (255 : Int) ≤ 16777215 by decide⟩
  | 1, _ => rw [e1]; omega
  | 2, _ => rw [e2, e1]; omega
theorem c_iover (t c : Int) (w : World) (ht : pixP t) (hc : pixP c) : SYields Tryz.prog 177 #[.int .i64 t, .int .i64 c] (.int .i64 (over t c)) w := by
  have hb := fun (k : Nat) (hk : k ≤ 2) => ovk_bd t c hk
  have hp := ovp_bd t c
  have ht' := ht
  have hc' := hc
  unfold pixP at ht' hc'
  (first | apply SYields.mk | apply SYieldsF.mk | skip); refine s_enter Tryz.func177 rfl Tryz.ntmps177 rfl ?_
  repeat' (first | exact rfl | (apply kO; (first | exact ov_pure rfl | (apply kOBin; (first | exact aBin | exact (ov_sub rfl rfl (by have := hp 0; omega)) | exact (ov_shlN 8 256 (by decide) (by decide) rfl rfl (by have := hb j (by omega); omega)) | exact (ov_orS 8 (by decide) rfl rfl (by have := hb j (by omega); omega) (by have := hp ((j : Int) + 1); omega)) | exact (ov_add rfl rfl (by have := hb j (by omega); have := hp ((j : Int) + 1); omega)))) | (apply kOCall; (first | (apply kCallF; (first | exact (ov_call rfl (fun w hw => c_isPixel _ w)) | exact (ov_call rfl (fun w hw => c_channel _ _ w (by omega))) | exact (ov_call rfl (fun w hw => c_ipart _ _ w)))) | (apply kCallB; (first | exact aBlt | exact aLenR)))) | (apply kOLoad; (first | exact aLdF | exact aLdR)) | exact ov_fieldAddr rfl | (apply kOIdx; (first | exact aIdx)) | exact aRest | exact aNew | exact (ov_field1 (ft := 31) rfl rfl rfl rfl))) | (refine kN ?_; (first | (refine kStore ?_; (first | refine s_store1 _ rfl rfl gpA rfl (by rfl) ?_ | refine s_storeS _ rfl rfl gpA rfl rfl (by rfl) ?_ | refine s_storeS _ rfl rfl gpA rfl (ones_img oiA) (by rfl) ?_)) | refine s_boxS rfl rfl (fun b hb => ?_) | refine s_allocS rfl (fun b hb => ?_) | refine s_box1 rfl rfl rfl (fun b hb => ?_) | refine s_alloc1 rfl rfl (fun b hb => ?_) | refine s_buildSlice0 rfl (fun b hb => ?_) | refine s_buildSlice rfl rfl rfl rfl rfl (fun b hb => ?_) | apply s_step)) | (refine kG ?_; (first | refine s_gyes rfl rfl rfl ?_ | refine s_gno rfl rfl rfl rfl rfl ?_ | ((first | refine s_split_d rfl rfl (fun h => ?_) (fun h => ?_) | refine s_split_n rfl rfl (fun h => ?_) (fun h => ?_)) <;> (try (first | contradiction | (exfalso; omega)))) | refine s_split_nb rfl rfl (fun h => ?_) (fun h => ?_) | refine s_split rfl rfl (fun h => ?_) (fun h => ?_))) | refine l_then ?_ | (refine kC ?_; (first | (refine c_loopV (ι := Nat) (fun j => j ≤ 3) (fun j => [(6, .int .i64 (ovk t c j)), (7, .int .i64 ((j : Int) + 1))]) (fun _ => []) (fun j => 3 - j) 0 (by omega) rfl (fun _ => rfl) ⟨rfl, rfl, trivial⟩ (fun w hw => hw) (fun j hj => ?_)) | refine c_seq ?_ | refine c_regionN rfl ?_ | refine c_ret ?_ | (refine kCond ?_; (first | refine c_cond_t rfl ?_ | refine c_cond_f rfl ?_ | ((first | refine c_cond_d rfl (fun h => ?_) (fun h => ?_) | refine c_cond_n rfl (fun h => ?_) (fun h => ?_)) <;> (try (first | contradiction | (exfalso; omega)))) | refine c_cond_nb rfl (fun h => ?_) (fun h => ?_) | refine c_cond rfl (fun h => ?_) (fun h => ?_))) | refine c_block ?_ | refine c_skip ?_ | refine c_exit ?_ | refine c_regionQN rfl rfl (by decide +kernel) ?_)) | apply s_stepQ | (refine kQG ?_; (first | refine s_gyesQ rfl rfl rfl ?_ | refine s_gnoQ rfl rfl rfl rfl rfl ?_ | ((first | refine s_splitQ_d rfl rfl (fun h => ?_) (fun h => ?_) | refine s_splitQ_n rfl rfl (fun h => ?_) (fun h => ?_)) <;> (try (first | contradiction | (exfalso; omega)))) | refine s_splitQ_nb rfl rfl (fun h => ?_) (fun h => ?_) | refine s_splitQ rfl rfl (fun h => ?_) (fun h => ?_))) | refine lQ_then ?_ | refine lQ_ends ?_ | (refine kE ?_; (first | refine e_then_r ?_ | refine e_block_r ?_ | refine e_then_n ?_ | refine e_then_x ?_ | refine e_block_n ?_ | refine e_block_x ?_ | refine e_block_y rfl ?_)) | refine l_ends ?_)
  · exact e_round (j + 1) (by omega) ⟨slook_to rfl (vint_to (by rw [ovk_succ]; omega)), slook_to rfl (vint_to (by push_cast; rfl)), (by repeat' first | exact trivial | refine ⟨rfl, ?_⟩)⟩ (fun w hw => hw) (by omega)
  · obtain rfl : j = 3 := by omega
    exact s_leave1 rfl rfl (fun w hw => ⟨ret_int (ovk_three ht hc), hw.below⟩)
theorem c_sover (t c : Int) (w : World) (ht : pixP t) (hc : pixP c) : SYields Tryz.prog 121 #[.int .i64 t, .int .i64 c] (.int .i64 (over t c)) w := by
  have hb := fun (k : Nat) (hk : k ≤ 2) => ovk_bd t c hk
  have hp := ovp_bd t c
  have ht' := ht
  have hc' := hc
  unfold pixP at ht' hc'
  (first | apply SYields.mk | apply SYieldsF.mk | skip); refine s_enter Tryz.func121 rfl Tryz.ntmps121 rfl ?_
  repeat' (first | exact rfl | (apply kO; (first | exact ov_pure rfl | (apply kOBin; (first | exact aBin | exact (ov_sub rfl rfl (by have := hp 0; omega)) | exact (ov_shlN 8 256 (by decide) (by decide) rfl rfl (by have := hb j (by omega); omega)) | exact (ov_orS 8 (by decide) rfl rfl (by have := hb j (by omega); omega) (by have := hp ((j : Int) + 1); omega)) | exact (ov_add rfl rfl (by have := hb j (by omega); have := hp ((j : Int) + 1); omega)))) | (apply kOCall; (first | (apply kCallF; (first | exact (ov_call rfl (fun w hw => c_l04Pixel _ w)) | exact (ov_call rfl (fun w hw => c_schannelIn _ _ w (by omega) (by omega))) | exact (ov_call rfl (fun w hw => c_spart _ _ w)))) | (apply kCallB; (first | exact aBlt | exact aLenR)))) | (apply kOLoad; (first | exact aLdF | exact aLdR)) | exact ov_fieldAddr rfl | (apply kOIdx; (first | exact aIdx)) | exact aRest | exact aNew | exact (ov_field1 (ft := 31) rfl rfl rfl rfl))) | (refine kN ?_; (first | (refine kStore ?_; (first | refine s_store1 _ rfl rfl gpA rfl (by rfl) ?_ | refine s_storeS _ rfl rfl gpA rfl rfl (by rfl) ?_ | refine s_storeS _ rfl rfl gpA rfl (ones_img oiA) (by rfl) ?_)) | refine s_boxS rfl rfl (fun b hb => ?_) | refine s_allocS rfl (fun b hb => ?_) | refine s_box1 rfl rfl rfl (fun b hb => ?_) | refine s_alloc1 rfl rfl (fun b hb => ?_) | refine s_buildSlice0 rfl (fun b hb => ?_) | refine s_buildSlice rfl rfl rfl rfl rfl (fun b hb => ?_) | apply s_step)) | (refine kG ?_; (first | refine s_gyes rfl rfl rfl ?_ | refine s_gno rfl rfl rfl rfl rfl ?_ | ((first | refine s_split_d rfl rfl (fun h => ?_) (fun h => ?_) | refine s_split_n rfl rfl (fun h => ?_) (fun h => ?_)) <;> (try (first | contradiction | (exfalso; omega)))) | refine s_split_nb rfl rfl (fun h => ?_) (fun h => ?_) | refine s_split rfl rfl (fun h => ?_) (fun h => ?_))) | refine l_then ?_ | (refine kC ?_; (first | (refine c_loopV (ι := Nat) (fun j => j ≤ 3) (fun j => [(6, .int .i64 (ovk t c j)), (7, .int .i64 ((j : Int) + 1))]) (fun _ => []) (fun j => 3 - j) 0 (by omega) rfl (fun _ => rfl) ⟨rfl, rfl, trivial⟩ (fun w hw => hw) (fun j hj => ?_)) | refine c_seq ?_ | refine c_regionN rfl ?_ | refine c_ret ?_ | (refine kCond ?_; (first | refine c_cond_t rfl ?_ | refine c_cond_f rfl ?_ | ((first | refine c_cond_d rfl (fun h => ?_) (fun h => ?_) | refine c_cond_n rfl (fun h => ?_) (fun h => ?_)) <;> (try (first | contradiction | (exfalso; omega)))) | refine c_cond_nb rfl (fun h => ?_) (fun h => ?_) | refine c_cond rfl (fun h => ?_) (fun h => ?_))) | refine c_block ?_ | refine c_skip ?_ | refine c_exit ?_ | refine c_regionQN rfl rfl (by decide +kernel) ?_)) | apply s_stepQ | (refine kQG ?_; (first | refine s_gyesQ rfl rfl rfl ?_ | refine s_gnoQ rfl rfl rfl rfl rfl ?_ | ((first | refine s_splitQ_d rfl rfl (fun h => ?_) (fun h => ?_) | refine s_splitQ_n rfl rfl (fun h => ?_) (fun h => ?_)) <;> (try (first | contradiction | (exfalso; omega)))) | refine s_splitQ_nb rfl rfl (fun h => ?_) (fun h => ?_) | refine s_splitQ rfl rfl (fun h => ?_) (fun h => ?_))) | refine lQ_then ?_ | refine lQ_ends ?_ | (refine kE ?_; (first | refine e_then_r ?_ | refine e_block_r ?_ | refine e_then_n ?_ | refine e_then_x ?_ | refine e_block_n ?_ | refine e_block_x ?_ | refine e_block_y rfl ?_)) | refine l_ends ?_)
  · exact e_round (j + 1) (by omega) ⟨slook_to rfl (vint_to (by rw [ovk_succ]; omega)), slook_to rfl (vint_to (by push_cast; rfl)), (by repeat' first | exact trivial | refine ⟨rfl, ?_⟩)⟩ (fun w hw => hw) (by omega)
  · obtain rfl : j = 3 := by omega
    exact s_leave1 rfl rfl (fun w hw => ⟨ret_int (ovk_three ht hc), hw.below⟩)
theorem c_inewImage (p q r : Int) (W : World) (hp : 1 ≤ p ∧ p ≤ 16) (hq : 1 ≤ q ∧ q ≤ 16) (hr : pixP r) : SYieldsF Tryz.prog 40 #[.int .i64 p, .int .i64 q, .int .i64 r] (fun u H => OImg u ⟨p, q, List.replicate (p * q).toNat r⟩ H) W := by
  have hwh := side_mul (w := p) (h := q) ⟨hp.1, hp.2, hq.1, hq.2⟩
  have hr' := hr
  unfold pixP at hr'
  (first | apply SYields.mk | apply SYieldsF.mk | skip); refine s_enter Tryz.func40 rfl Tryz.ntmps40 rfl ?_
  repeat' (first | exact rfl | (apply kO; (first | exact ov_pure rfl | (apply kOBin; (first | exact aBin)) | (apply kOCall; (first | (apply kCallF; (first | exact (ov_call rfl (fun w hw => c_isSide _ w)) | exact (ov_call rfl (fun w hw => c_isPixel _ w)))) | (apply kCallB; (first | exact aBlt | exact aLenR)))) | (apply kOLoad; (first | exact aLdF | exact aLdR)) | exact ov_fieldAddr rfl | (apply kOIdx; (first | exact aIdx)) | exact aRest | exact aNew | exact (ov_field1 (ft := 31) rfl rfl rfl rfl))) | (refine kN ?_; (first | (refine kCall ?_; (first | (refine kWFn 97 ?_; (refine s_callF (fun u H => OInts 3 u (List.replicate (p * q).toNat r) H) rfl (fun w hw => c_repeat _ r (p * q) w (OInts.reads (OInts.whole 3 _ [r] (Nat.le_of_ble_eq_true rfl)) (hfA hw)) (by omega)) rfl (fun u H hu => ?_); have f4 := hu.form; obtain ⟨ga, gc, rfl⟩ := f4)) | apply s_step)) | (refine kStore ?_; (first | refine s_store1 _ rfl rfl gpA rfl (by rfl) ?_ | refine s_storeS _ rfl rfl gpA rfl rfl (by rfl) ?_ | refine s_storeS _ rfl rfl gpA rfl (ones_img oiA) (by rfl) ?_)) | refine s_boxS rfl rfl (fun b hb => ?_) | refine s_allocS rfl (fun b hb => ?_) | refine s_box1 rfl rfl rfl (fun b hb => ?_) | refine s_alloc1 rfl rfl (fun b hb => ?_) | refine s_buildSlice0 rfl (fun b hb => ?_) | refine s_buildSlice rfl rfl rfl rfl rfl (fun b hb => ?_) | apply s_step)) | (refine kG ?_; (first | refine s_gyes rfl rfl rfl ?_ | refine s_gno rfl rfl rfl rfl rfl ?_ | ((first | refine s_split_d rfl rfl (fun h => ?_) (fun h => ?_) | refine s_split_n rfl rfl (fun h => ?_) (fun h => ?_)) <;> (try (first | contradiction | (exfalso; omega)))) | refine s_split_nb rfl rfl (fun h => ?_) (fun h => ?_) | refine s_split rfl rfl (fun h => ?_) (fun h => ?_))) | refine l_then ?_ | (refine kC ?_; (first | refine c_seq ?_ | refine c_regionN rfl ?_ | refine c_ret ?_ | (refine kCond ?_; (first | refine c_cond_t rfl ?_ | refine c_cond_f rfl ?_ | ((first | refine c_cond_d rfl (fun h => ?_) (fun h => ?_) | refine c_cond_n rfl (fun h => ?_) (fun h => ?_)) <;> (try (first | contradiction | (exfalso; omega)))) | refine c_cond_nb rfl (fun h => ?_) (fun h => ?_) | refine c_cond rfl (fun h => ?_) (fun h => ?_))) | refine c_block ?_ | refine c_skip ?_ | refine c_exit ?_ | refine c_regionQN rfl rfl (by decide +kernel) ?_)) | apply s_stepQ | (refine kQG ?_; (first | refine s_gyesQ rfl rfl rfl ?_ | refine s_gnoQ rfl rfl rfl rfl rfl ?_ | ((first | refine s_splitQ_d rfl rfl (fun h => ?_) (fun h => ?_) | refine s_splitQ_n rfl rfl (fun h => ?_) (fun h => ?_)) <;> (try (first | contradiction | (exfalso; omega)))) | refine s_splitQ_nb rfl rfl (fun h => ?_) (fun h => ?_) | refine s_splitQ rfl rfl (fun h => ?_) (fun h => ?_))) | refine lQ_then ?_ | refine lQ_ends ?_ | (refine kE ?_; (first | refine e_then_r ?_ | refine e_block_r ?_ | refine e_then_n ?_ | refine e_then_x ?_ | refine e_block_n ?_ | refine e_block_x ?_ | refine e_block_y rfl ?_)) | refine l_ends ?_)
  all_goals (refine s_leaveSF rfl rfl rfl fwA (fun w hw => ⟨_, _, rfl, ⟨_, rfl, hu⟩, hw.toFresh (H := H) gpA⟩))
end Go.Proofs.YtakijgpoaeggnaaGreat
/-
  The program's grids: sixteen rows as numbers. Rules for their bits.
-/
set_option linter.unusedVariables false
namespace Go.Proofs.YtakijgpoaeggnaaGreat
open Go Sx
attribute [local irreducible] Exit.then Exit.inBlock bodyPost
def rowV (g : Grid) (y : Nat) : Value := .int .i64 (Sx.bits (g y) 16 : Nat)
abbrev gcells (g : Grid) : List Value := [rowV g 0, rowV g 1, rowV g 2, rowV g 3, rowV g 4, rowV g 5, rowV g 6, rowV g 7, rowV g 8, rowV g 9, rowV g 10, rowV g 11, rowV g 12, rowV g 13, rowV g 14, rowV g 15]
abbrev gval (g : Grid) : Value := .agg #[rowV g 0, rowV g 1, rowV g 2, rowV g 3, rowV g 4, rowV g 5, rowV g 6, rowV g 7, rowV g 8, rowV g 9, rowV g 10, rowV g 11, rowV g 12, rowV g 13, rowV g 14, rowV g 15]
def gl (g : Grid) : List Value := (List.range 16).map (rowV g)
theorem gl_eq (g : Grid) : gl g = gcells g := rfl
theorem gl_get (g : Grid) {y : Nat} (h : y < 16) : (gl g)[y]? = some (rowV g y) := by simp [gl, h]
theorem rowV_congr {g h : Grid} (e : g.eqv h) {y : Nat} (hy : y < 16) : rowV g y = rowV h y := by
  unfold rowV; rw [bits_congr 16 (fun i hi => e y i hy hi)]
theorem gl_congr {g h : Grid} (e : g.eqv h) : gl g = gl h := List.map_congr_left (fun y hy => rowV_congr e (List.mem_range.1 hy))
theorem gval_congr {g h : Grid} (e : g.eqv h) : gval g = gval h := by
  have := gl_congr e
  rw [gl_eq, gl_eq] at this
  show Value.agg (gcells g).toArray = Value.agg (gcells h).toArray
  rw [this]
def Grid.row (g : Grid) (y : Nat) (f : Nat → Bool) : Grid := fun b => if b = y then f else g b
theorem gl_set (g : Grid) {y : Nat} (hy : y < 16) (f : Nat → Bool) : (gl g).set y (.int .i64 (Sx.bits f 16 : Nat)) = gl (Grid.row g y f) := by
  apply List.ext_getElem?
  intro q
  rw [List.getElem?_set]
  by_cases hq : q < 16
  · rw [gl_get g hq, gl_get _ hq]
    unfold rowV Grid.row
    by_cases e : y = q
    · subst e; simp [gl, hy]
    · have e' : ¬ q = y := fun hh => e hh.symm
      simp [e, e']
  · have h1 : (gl g).length ≤ q := by simp [gl]; omega
    have h2 : (gl (Grid.row g y f)).length ≤ q := by simp [gl]; omega
    rw [List.getElem?_eq_none h1, List.getElem?_eq_none h2, if_neg (by omega)]
theorem bits16 (f : Nat → Bool) : 0 ≤ ((Sx.bits f 16 : Nat) : Int) ∧ ((Sx.bits f 16 : Nat) : Int) ≤ 65535 := by
  have := bits_lt f 16
  omega
section
variable {P : Program} {n : Nat} {lo : SMut} {s : World} {E : SEnv} {L : SHeap} {d : Option Tmp} {ty : TypeId} {pos : String} {after : Array Edge} {g0 : Option (Nat × Bool)} {x y : Operand} {xt yt : TypeId}
theorem ov_buildA0 {t e : TypeId} {len : Nat} {zl : List Value} {ze : Value} {k by_ ke be : Nat} [hu : SUnd P t (.array len e)] [hi : SInf P t (.agg zl.toArray) k by_] [he : SInf P e ze ke be] :
    SOpV P n lo s E L ⟨d, .build t #[], ty, pos, after, g0⟩ (.agg zl.toArray) :=
  SOpV.of_run fun a ha w hw => by
    obtain ⟨i1, h1, h2, h3, h4⟩ := hi.out
    obtain ⟨i2, q1, q2, q3, q4⟩ := he.out
    have hb : P.built t ([] : List (Nat × Value)) = some zl.toArray := by
      unfold Program.built
      simp only [h1, hu.h, h2, q1]
      rfl
    have := run_build w t #[] zl.toArray hb
    simp [execOp, this]
theorem ov_ldG (g : Grid) {t : TypeId} {b i j : Nat} {td : TypeDesc} {T : TypeId} [hu : SUnd P t td] (hx : sval E x = some (.pointer (some ⟨b, 0 + j * 1, none⟩))) (hr : sisRow td = false) (hL : getL L i = some [(b, srow (gl g) T)]) (hj : j < 16) :
    SOpV P n lo s E L ⟨d, .load t x, ty, pos, after, g0⟩ (.int .i64 (Sx.bits (g j) 16 : Nat)) :=
  ov_load hx hr (getL_flat hL (List.mem_singleton.2 rfl)) (by rw [snth_eq, Nat.zero_add, Nat.mul_one]; exact gl_get g hj)
theorem ov_orG {f h : Nat → Bool} (hx : sval E x = some (.int .i64 (Sx.bits f 16 : Nat))) (hy : sval E y = some (.int .i64 (Sx.bits h 16 : Nat))) :
    SOpV P n lo s E L ⟨d, .binOp .or xt x y yt, ty, pos, after, g0⟩ (.int .i64 (Sx.bits (fun i => f i || h i) 16 : Nat)) := by
  have h1 := bits16 f
  have h2 := bits16 h
  have := ov_or (P := P) (n := n) (lo := lo) (s := s) (L := L) (d := d) (ty := ty) (pos := pos) (after := after) (g := g0) (xt := xt) (yt := yt) hx hy (by omega) (by omega)
  rw [Int.toNat_natCast, Int.toNat_natCast, bits_or] at this
  exact this
theorem ov_andG {f h : Nat → Bool} (hx : sval E x = some (.int .i64 (Sx.bits f 16 : Nat))) (hy : sval E y = some (.int .i64 (Sx.bits h 16 : Nat))) :
    SOpV P n lo s E L ⟨d, .binOp .and xt x y yt, ty, pos, after, g0⟩ (.int .i64 (Sx.bits (fun i => f i && h i) 16 : Nat)) := by
  have h1 := bits16 f
  have h2 := bits16 h
  have := ov_and (P := P) (n := n) (lo := lo) (s := s) (L := L) (d := d) (ty := ty) (pos := pos) (after := after) (g := g0) (xt := xt) (yt := yt) hx hy (by omega) (by omega)
  rw [Int.toNat_natCast, Int.toNat_natCast, bits_and] at this
  exact this
theorem ov_bit {kj : IntKind} {j : Int} (hx : sval E x = some (.int .i64 1)) (hy : sval E y = some (.int kj j)) (hj : 0 ≤ j ∧ j ≤ 16) :
    SOpV P n lo s E L ⟨d, .binOp .shl xt x y yt, ty, pos, after, g0⟩ (.int .i64 ((2 ^ j.toNat : Nat) : Int)) := by
  have hp : (2 : Nat) ^ j.toNat ≤ 2 ^ 16 := Nat.pow_le_pow_right (by omega) (by omega)
  have e : (1 : Int) * 2 ^ j.toNat = ((2 ^ j.toNat : Nat) : Int) := by push_cast; omega
  have hm : ∀ m : Nat, m ≤ 2 ^ 16 → -9223372036854775808 ≤ (m : Int) ∧ (m : Int) ≤ 9223372036854775807 := fun m h => by omega
  have := ov_shl (P := P) (n := n) (lo := lo) (s := s) (L := L) (d := d) (ty := ty) (pos := pos) (after := after) (g := g0) (xt := xt) (yt := yt) hx hy (by omega) (by rw [e]; exact hm _ hp)
  rw [e] at this
  exact this
theorem ov_andBit {f : Nat → Bool} {j : Nat} (hx : sval E x = some (.int .i64 (Sx.bits f 16 : Nat))) (hy : sval E y = some (.int .i64 ((2 ^ j : Nat) : Int))) (hj : j < 16) :
    SOpV P n lo s E L ⟨d, .binOp .and xt x y yt, ty, pos, after, g0⟩ (.int .i64 (if f j = true then ((2 ^ j : Nat) : Int) else 0)) := by
  have h1 := bits16 f
  have hp : (2 : Nat) ^ j ≤ 2 ^ 16 := Nat.pow_le_pow_right (by omega) (by omega)
  have hm : ∀ m : Nat, m ≤ 2 ^ 16 → 0 ≤ (m : Int) ∧ (m : Int) ≤ 9223372036854775807 := fun m h => by omega
  have := ov_and (P := P) (n := n) (lo := lo) (s := s) (L := L) (d := d) (ty := ty) (pos := pos) (after := after) (g := g0) (xt := xt) (yt := yt) hx hy (by omega) (hm _ hp)
  rw [Int.toNat_natCast, Int.toNat_natCast, bits_and_bit f hj] at this
  split at this
  · rename_i h; rw [if_pos h]; exact this
  · rename_i h; rw [if_neg h]; exact this
end
theorem bit_ne {p : Bool} {j : Nat} : (if p = true then ((2 ^ j : Nat) : Int) else 0) ≠ 0 ↔ p = true := by
  have h2 : 0 < 2 ^ j := Nat.pow_pos (by omega)
  cases p
  · simp
  · have hm : ∀ m : Nat, 0 < m → (m : Int) ≠ 0 := fun m h => by omega
    rw [if_pos rfl]
    exact ⟨fun _ => rfl, fun _ => hm _ h2⟩
end Go.Proofs.YtakijgpoaeggnaaGreat
/-
  The plain functions, continued: places in pictures that are turned and scaled; fading in place; colors in place. No program in sight.
-/
set_option linter.unusedVariables false
namespace Sx
theorem orient_idx {i : DImg} {o : Int} (h : i.ok) (ho : 0 ≤ o ∧ o ≤ 7) {x y : Int} (hx : 0 ≤ x ∧ x < i.W) (hy : 0 ≤ y ∧ y < i.H) :
    (0 ≤ (orientPoint i.W i.H o x y).2 * (orientSize i.W i.H o).1 ∧ (orientPoint i.W i.H o x y).2 * (orientSize i.W i.H o).1 ≤ 256) ∧ (0 ≤ (orientPoint i.W i.H o x y).1 ∧ (orientPoint i.W i.H o x y).1 ≤ 15) ∧
    (orientPoint i.W i.H o x y).2 * (orientSize i.W i.H o).1 + (orientPoint i.W i.H o x y).1 < i.W * i.H := by
  have hok : orientOk i.W i.H o := ⟨h.1, h.2.1, ho⟩
  have hb := orientPt_bd hok (x := x) (y := y) (by omega) (by omega)
  have h1 := h.1
  have h2 := h.2.1
  unfold orientPoint orientSize
  rw [if_pos ⟨hok, by omega, by omega⟩, if_pos hok]
  by_cases e : o % 2 = 1
  · rw [if_pos e] at hb ⊢
    rw [if_pos e] at hb
    have := place_lt (w := i.H) (h := i.W) (x := (orientPt i.W i.H o x y).1) (y := (orientPt i.W i.H o x y).2) (by omega) (by omega)
    have hm := mul_bd (a := (orientPt i.W i.H o x y).2) (b := i.H) (A := 15) (B := 16) (by omega) (by omega)
    rw [Int.mul_comm i.H i.W] at this
    dsimp only
    omega
  · rw [if_neg e] at hb ⊢
    rw [if_neg e] at hb
    have := place_lt (w := i.W) (h := i.H) (x := (orientPt i.W i.H o x y).1) (y := (orientPt i.W i.H o x y).2) (by omega) (by omega)
    have hm := mul_bd (a := (orientPt i.W i.H o x y).2) (b := i.W) (A := 15) (B := 16) (by omega) (by omega)
    dsimp only
    omega
theorem orientSize_mul {w h o : Int} (hok : orientOk w h o) : (orientSize w h o).1 * (orientSize w h o).2 = w * h := by
  unfold orientSize
  rw [if_pos hok]
  split
  · exact Int.mul_comm ..
  · rfl
theorem orientSize_bd {w h o : Int} (hok : orientOk w h o) : (1 ≤ (orientSize w h o).1 ∧ (orientSize w h o).1 ≤ 16) ∧ (1 ≤ (orientSize w h o).2 ∧ (orientSize w h o).2 ≤ 16) := by
  have hok' := hok
  unfold orientOk at hok'
  unfold orientSize
  rw [if_pos hok]
  split <;> (dsimp only; omega)
theorem ofill_next {i : DImg} {o : Int} (h : i.ok) (ho : 0 ≤ o ∧ o ≤ 7) {k : Nat} (hk : k < i.data.length) :
    (ofill i o k).set ((orientPoint i.W i.H o ((k : Int) % i.W) ((k : Int) / i.W)).2 * (orientSize i.W i.H o).1 + (orientPoint i.W i.H o ((k : Int) % i.W) ((k : Int) / i.W)).1).toNat (i.data.getD k 0) = ofill i o (k + 1) := by
  have hok : orientOk i.W i.H o := ⟨h.1, h.2.1, ho⟩
  have hm := mod_row (w := i.W) (q := k) h.1.1
  have hd := div_lt (w := i.W) (h := i.H) (q := k) h.1.1 (by rw [← h.lenN]; omega)
  unfold orientPoint orientSize
  rw [if_pos ⟨hok, by omega, by omega⟩, if_pos hok]
  conv => rhs; unfold ofill
  dsimp only
  by_cases e : o % 2 = 1
  · simp only [if_pos e]
  · simp only [if_neg e]
theorem kplace {w h : Int} (hw : 1 ≤ w) {x y : Nat} (hx : (x : Int) < w) (hy : (y : Int) < h) : ((y * w.toNat + x : Nat) : Int) % w = x ∧ ((y * w.toNat + x : Nat) : Int) / w = y ∧ y * w.toNat + x < (w * h).toNat ∧ ((y * w.toNat + x : Nat) : Int) = y * w + x := by
  have e : ((y * w.toNat + x : Nat) : Int) = (y : Int) * w + x := by push_cast; rw [Int.toNat_of_nonneg (by omega)]
  have h1 := row_mod (w := w) (x := x) (y := y) (by omega) (by omega)
  have h2 := place_lt (w := w) (h := h) (x := x) (y := y) (by omega) (by omega)
  rw [e]
  exact ⟨h1.1, h1.2, by omega, rfl⟩
theorem ofill_next' {i : DImg} {o : Int} (h : i.ok) (ho : 0 ≤ o ∧ o ≤ 7) {x y : Nat} (hx : (x : Int) < i.W) (hy : (y : Int) < i.H) :
    (ofill i o (y * i.W.toNat + x)).set ((orientPoint i.W i.H o x y).2 * (orientSize i.W i.H o).1 + (orientPoint i.W i.H o x y).1).toNat (i.data.getD ((y : Int) * i.W + x).toNat 0) = ofill i o (y * i.W.toNat + (x + 1)) := by
  have hk := kplace (w := i.W) (h := i.H) h.1.1 hx hy
  have := ofill_next h ho (k := y * i.W.toNat + x) (by rw [h.lenN]; exact hk.2.2.1)
  rw [hk.1, hk.2.1] at this
  rw [← hk.2.2.2, Int.toNat_natCast]
  exact this
theorem rows_end {w h : Int} {y : Nat} (hw : 1 ≤ w) (hy : (y : Int) = h) : y * w.toNat = (w * h).toNat := by
  have h2 : ((y * w.toNat : Nat) : Int) = w * h := by push_cast; rw [hy, Int.toNat_of_nonneg (by omega), Int.mul_comm]
  omega
theorem rows_next {w : Int} {y x : Nat} (hx : (x : Int) = w) : y * w.toNat + x = (y + 1) * w.toNat := by
  rw [Nat.succ_mul]; omega
theorem rows_le {w h : Int} {y : Nat} (hw : 1 ≤ w ∧ w ≤ 16) (hh : 1 ≤ h ∧ h ≤ 16) (hy : (y : Int) ≤ h) : y * w.toNat ≤ 256 := by
  have := Nat.mul_le_mul (show y ≤ 16 by omega) (show w.toNat ≤ 16 by omega); omega
theorem scalePoint_in {f t k : Int} (hf : 1 ≤ f ∧ f ≤ 16) (ht : 1 ≤ t ∧ t ≤ 16) (hk : 0 ≤ k ∧ k < t) : scalePoint f t k = k * f / t ∧ 0 ≤ scalePoint f t k ∧ scalePoint f t k < f := by
  unfold scalePoint
  rw [if_pos ⟨hf, ht, by omega⟩]
  have h0 : 0 ≤ k * f := Int.mul_nonneg (by omega) (by omega)
  have h1 : (k + 1) * f ≤ t * f := Int.mul_le_mul_of_nonneg_right (by omega) (by omega)
  rw [Int.add_mul, Int.one_mul, Int.mul_comm t f] at h1
  exact ⟨rfl, Int.ediv_nonneg h0 (by omega), Int.ediv_lt_of_lt_mul (by omega) (by omega)⟩
theorem scale_idx {i : DImg} {w h : Int} (hi : i.ok) (hw : 1 ≤ w ∧ w ≤ 16) (hh : 1 ≤ h ∧ h ≤ 16) {x y : Int} (hx : 0 ≤ x ∧ x < w) (hy : 0 ≤ y ∧ y < h) :
    (0 ≤ scalePoint i.H h y * i.W ∧ scalePoint i.H h y * i.W ≤ 256) ∧ (0 ≤ scalePoint i.W w x ∧ scalePoint i.W w x ≤ 15) ∧ scalePoint i.H h y * i.W + scalePoint i.W w x < i.data.length ∧
    i.data.getD (scalePoint i.H h y * i.W + scalePoint i.W w x).toNat 0 = scaleAt i w h x y := by
  have h1 := scalePoint_in hi.2.1 hh hy
  have h2 := scalePoint_in hi.1 hw hx
  have hp := place_lt (w := i.W) (h := i.H) h2.2 h1.2
  have hm := mul_bd (a := scalePoint i.H h y) (b := i.W) (A := 16) (B := 16) (by have := hi.2.1; omega) (by have := hi.1; omega)
  have hl := hi.2.2.1
  have hi1 := hi.1
  refine ⟨by omega, by omega, by omega, ?_⟩
  unfold scaleAt
  rw [h1.1, h2.1]
def mapFirst (f : Int → Int) (l : List Int) (j : Nat) : List Int := (l.take j).map f ++ l.drop j
theorem mapFirst_zero (f : Int → Int) (l : List Int) : mapFirst f l 0 = l := by simp [mapFirst]
theorem mapFirst_all (f : Int → Int) (l : List Int) {j : Nat} (h : l.length ≤ j) : mapFirst f l j = l.map f := by simp [mapFirst, List.take_of_length_le h, List.drop_of_length_le h]
theorem mapFirst_length (f : Int → Int) (l : List Int) (j : Nat) : (mapFirst f l j).length = l.length := by simp [mapFirst]; omega
theorem mapFirst_get (f : Int → Int) (l : List Int) {j : Nat} (h : j < l.length) : (mapFirst f l j).getD j 0 = l.getD j 0 := by
  simp only [mapFirst, List.getD_eq_getElem?_getD]
  rw [List.getElem?_append_right (by simp; omega)]
  simp [show j - min j l.length = 0 by omega]
theorem mapFirst_set (f : Int → Int) (l : List Int) {j : Nat} (h : j < l.length) : (mapFirst f l j).set j (f (l.getD j 0)) = mapFirst f l (j + 1) := by
  unfold mapFirst
  have hl : ((l.take j).map f).length = j := by simp; omega
  rw [List.set_append_right _ _ (by omega), hl, Nat.sub_self, List.drop_eq_getElem_cons h, List.set_cons_zero, List.take_add_one]
  simp only [Option.toList_some, List.map_append, List.map_cons, List.map_nil, List.append_assoc, List.cons_append, List.nil_append, List.getD_eq_getElem?_getD, List.getElem?_eq_getElem h, Option.getD_some]
end Sx
/-
  Contracts: images that are turned, scaled, faded.
-/
set_option linter.unusedVariables false
namespace Go.Proofs.YtakijgpoaeggnaaGreat
open Go Sx
attribute [local irreducible] Exit.then Exit.inBlock bodyPost
theorem c_ioriented (i : DImg) (d : Value) (o : Int) (W : World) (hd : RInts W d i.data) : SYieldsF Tryz.prog 184 #[vImg i d, .int .i64 o] (fun u H => OImg u (oriented i o) H) W := by
  by_cases hok : i.ok ∧ (0 ≤ o ∧ o ≤ 7)
  · have hoo : orientOk i.W i.H o := ⟨hok.1.1, hok.1.2.1, hok.2⟩
    have hsz := orientSize_mul hoo
    have hsb := orientSize_bd hoo
    have hW := (hok.1).1; have hH := (hok.1).2.1; have hlen := (hok.1).2.2.1; have hlenN := (hok.1).lenN; have hwh := side_mul (w := i.W) (h := i.H) ⟨(hok.1).1.1, (hok.1).1.2, (hok.1).2.1.1, (hok.1).2.1.2⟩
    have hfl := ofill_length i o
    have hm := fun k => mod_row (w := i.W) (q := k) hok.1.1.1
    have hdv := fun (k : Nat) (hk : k < i.data.length) => div_lt (w := i.W) (h := i.H) (q := k) hok.1.1.1 (by rw [← hok.1.lenN]; omega)
    have hq := fun (k : Nat) (hk : k < i.data.length) => orient_idx hok.1 hok.2 (x := (k : Int) % i.W) (y := (k : Int) / i.W) ⟨(hm k).1, (hm k).2.1⟩ ⟨(hm k).2.2.1, hdv k hk⟩
    (first | apply SYields.mk | apply SYieldsF.mk | skip); refine s_enter Tryz.func184 rfl Tryz.ntmps184 rfl ?_
    repeat' (first | exact rfl | (apply kO; (first | exact ov_pure rfl | (apply kOBin; (first | exact aBin | exact (ov_mul rfl rfl (by omega)) | exact (ov_mul rfl rfl (by have := hq j.1 (by omega); omega)) | exact (ov_add rfl rfl (by have := hq j.1 (by omega); omega)))) | (apply kOCall; (first | (apply kCallF; (first | exact (ov_call rfl (fun w hw => c_iimageOk i _ w (riA hw))) | exact (ov_call rfl (fun w hw => c_isOrient _ w)) | exact (ov_call rfl (fun w hw => c_iorientSize _ _ _ w)) | exact (ov_call rfl (fun w hw => c_iorientPoint _ _ _ _ _ w)))) | (apply kCallB; (first | exact aBlt | exact aLenR)))) | (apply kOLoad; (first | exact aLdF | exact aLdR)) | exact ov_fieldAddr rfl | (apply kOIdx; (first | exact (ov_idxR (fun w hw => (rrA hw)) rfl rfl (by rw [hfl]; have := hq j.1 (by omega); omega)) | exact aIdx)) | exact aRest | exact aNew | exact (ov_field1 (ft := 31) rfl rfl rfl rfl))) | (refine kN ?_; (first | (refine kStore ?_; (first | (refine s_setI _ rfl rfl (by assumption) gpA (by rw [hfl]; have := hq j.1 (by omega); omega) (fun H' hu => ?_)) | refine s_store1 _ rfl rfl gpA rfl (by rfl) ?_ | refine s_storeS _ rfl rfl gpA rfl rfl (by rfl) ?_ | refine s_storeS _ rfl rfl gpA rfl (ones_img oiA) (by rfl) ?_)) | refine s_boxS rfl rfl (fun b hb => ?_) | refine s_allocS rfl (fun b hb => ?_) | refine s_box1 rfl rfl rfl (fun b hb => ?_) | refine s_alloc1 rfl rfl (fun b hb => ?_) | (refine kWMake ?_; (refine s_make1 rfl rfl rfl ⟨by omega, by omega, by omega⟩ (by omega) rfl (fun b hb => ?_); rw [hsz])) | refine s_buildSlice0 rfl (fun b hb => ?_) | refine s_buildSlice rfl rfl rfl rfl rfl (fun b hb => ?_) | apply s_step)) | (refine kG ?_; (first | refine s_gyes rfl rfl rfl ?_ | refine s_gno rfl rfl rfl rfl rfl ?_ | ((first | refine s_split_d rfl rfl (fun h => ?_) (fun h => ?_) | refine s_split_n rfl rfl (fun h => ?_) (fun h => ?_)) <;> (try (first | contradiction | (exfalso; omega) | (exfalso; exact absurd hok.1 (by assumption))))) | refine s_split_nb rfl rfl (fun h => ?_) (fun h => ?_) | refine s_split rfl rfl (fun h => ?_) (fun h => ?_))) | refine l_then ?_ | (refine kC ?_; (first | (refine c_loopV (ι := Nat × SPiece) (fun j => j.1 ≤ i.data.length ∧ OInts 3 _ (ofill i o j.1) j.2) (fun j => [(40, .int .i64 (j.1 : Int))]) (fun j => [_, j.2, _, _]) (fun j => i.data.length - j.1) (0, _) ⟨by dsimp only; omega, OInts.full _ _ 0 (by unfold maxLen; omega)⟩ rfl (fun _ => rfl) ⟨rfl, trivial⟩ (fun w hw => hw) (fun j hj => ?_); obtain ⟨hj1, hj2⟩ := hj) | refine c_seq ?_ | refine c_regionN rfl ?_ | refine c_ret ?_ | (refine kCond ?_; (first | refine c_cond_t rfl ?_ | refine c_cond_f rfl ?_ | ((first | refine c_cond_d rfl (fun h => ?_) (fun h => ?_) | refine c_cond_n rfl (fun h => ?_) (fun h => ?_)) <;> (try (first | contradiction | (exfalso; omega) | (exfalso; exact absurd hok.1 (by assumption))))) | refine c_cond_nb rfl (fun h => ?_) (fun h => ?_) | refine c_cond rfl (fun h => ?_) (fun h => ?_))) | refine c_block ?_ | refine c_skip ?_ | refine c_exit ?_ | refine c_regionQN rfl rfl (by decide +kernel) ?_)) | apply s_stepQ | (refine kQG ?_; (first | refine s_gyesQ rfl rfl rfl ?_ | refine s_gnoQ rfl rfl rfl rfl rfl ?_ | ((first | refine s_splitQ_d rfl rfl (fun h => ?_) (fun h => ?_) | refine s_splitQ_n rfl rfl (fun h => ?_) (fun h => ?_)) <;> (try (first | contradiction | (exfalso; omega) | (exfalso; exact absurd hok.1 (by assumption))))) | refine s_splitQ_nb rfl rfl (fun h => ?_) (fun h => ?_) | refine s_splitQ rfl rfl (fun h => ?_) (fun h => ?_))) | refine lQ_then ?_ | refine lQ_ends ?_ | (refine kE ?_; (first | refine e_then_r ?_ | refine e_block_r ?_ | refine e_then_n ?_ | refine e_then_x ?_ | refine e_block_n ?_ | refine e_block_x ?_ | refine e_block_y rfl ?_)) | refine l_ends ?_)
    · rw [Int.toNat_natCast, ofill_next hok.1 hok.2 (by omega)] at hu
      exact e_round (j.1 + 1, H') ⟨by dsimp only; omega, hu⟩ ⟨rfl, (by repeat' first | exact trivial | refine ⟨rfl, ?_⟩)⟩ (fun w hw => hw) (by dsimp only; omega)
    · obtain hj : j.1 = i.data.length := by omega
      rw [hj] at hj2
      refine s_leaveSF rfl rfl rfl fwA (fun w hw => ?_)
      refine ⟨_, _, rfl, ?_, hw.toFresh (i := 1) rfl⟩
      unfold oriented
      rw [if_pos hok]
      exact ⟨_, rfl, hj2⟩
  · (first | apply SYields.mk | apply SYieldsF.mk | skip); refine s_enter Tryz.func184 rfl Tryz.ntmps184 rfl ?_
    repeat' (first | exact rfl | (apply kO; (first | exact ov_pure rfl | (apply kOBin; (first | exact aBin)) | (apply kOCall; (first | (apply kCallF; (first | exact (ov_call rfl (fun w hw => c_iimageOk i _ w (riA hw))) | exact (ov_call rfl (fun w hw => c_isOrient _ w)) | exact (ov_call rfl (fun w hw => c_iorientSize _ _ _ w)))) | (apply kCallB; (first | exact aBlt | exact aLenR)))) | (apply kOLoad; (first | exact aLdF | exact aLdR)) | exact ov_fieldAddr rfl | (apply kOIdx; (first | exact aIdx)) | exact aRest | exact aNew | exact (ov_field1 (ft := 31) rfl rfl rfl rfl))) | (refine kN ?_; (first | (refine kStore ?_; (first | refine s_store1 _ rfl rfl gpA rfl (by rfl) ?_ | refine s_storeS _ rfl rfl gpA rfl rfl (by rfl) ?_ | refine s_storeS _ rfl rfl gpA rfl (ones_img oiA) (by rfl) ?_)) | refine s_boxS rfl rfl (fun b hb => ?_) | refine s_allocS rfl (fun b hb => ?_) | refine s_box1 rfl rfl rfl (fun b hb => ?_) | refine s_alloc1 rfl rfl (fun b hb => ?_) | refine s_buildSlice0 rfl (fun b hb => ?_) | refine s_buildSlice rfl rfl rfl rfl rfl (fun b hb => ?_) | apply s_step)) | (refine kG ?_; (first | refine s_gyes rfl rfl rfl ?_ | refine s_gno rfl rfl rfl rfl rfl ?_ | ((first | refine s_split_d rfl rfl (fun h => ?_) (fun h => ?_) | refine s_split_n rfl rfl (fun h => ?_) (fun h => ?_)) <;> (try (first | contradiction | (exfalso; omega) | (exfalso; exact hok ⟨by assumption, by assumption⟩)))) | refine s_split_nb rfl rfl (fun h => ?_) (fun h => ?_) | refine s_split rfl rfl (fun h => ?_) (fun h => ?_))) | refine l_then ?_ | (refine kC ?_; (first | refine c_seq ?_ | refine c_regionN rfl ?_ | refine c_ret ?_ | (refine kCond ?_; (first | refine c_cond_t rfl ?_ | refine c_cond_f rfl ?_ | ((first | refine c_cond_d rfl (fun h => ?_) (fun h => ?_) | refine c_cond_n rfl (fun h => ?_) (fun h => ?_)) <;> (try (first | contradiction | (exfalso; omega) | (exfalso; exact hok ⟨by assumption, by assumption⟩)))) | refine c_cond_nb rfl (fun h => ?_) (fun h => ?_) | refine c_cond rfl (fun h => ?_) (fun h => ?_))) | refine c_block ?_ | refine c_skip ?_ | refine c_exit ?_ | refine c_regionQN rfl rfl (by decide +kernel) ?_)) | apply s_stepQ | (refine kQG ?_; (first | refine s_gyesQ rfl rfl rfl ?_ | refine s_gnoQ rfl rfl rfl rfl rfl ?_ | ((first | refine s_splitQ_d rfl rfl (fun h => ?_) (fun h => ?_) | refine s_splitQ_n rfl rfl (fun h => ?_) (fun h => ?_)) <;> (try (first | contradiction | (exfalso; omega) | (exfalso; exact hok ⟨by assumption, by assumption⟩)))) | refine s_splitQ_nb rfl rfl (fun h => ?_) (fun h => ?_) | refine s_splitQ rfl rfl (fun h => ?_) (fun h => ?_))) | refine lQ_then ?_ | refine lQ_ends ?_ | (refine kE ?_; (first | refine e_then_r ?_ | refine e_block_r ?_ | refine e_then_n ?_ | refine e_then_x ?_ | refine e_block_n ?_ | refine e_block_x ?_ | refine e_block_y rfl ?_)) | refine l_ends ?_)
    all_goals (refine kE ?_; refine s_leaveSF rfl rfl rfl fwA (fun w hw => ?_))
    all_goals (unfold oriented; rw [if_neg hok]; exact ⟨_, [], rfl, ⟨_, rfl, OInts.nil _⟩, hw.toFresh0⟩)
theorem c_soriented (i : DImg) (d : Value) (o : Int) (W : World) (hd : RInts W d i.data) : SYieldsF Tryz.prog 161 #[vImg i d, .int .i64 o] (fun u H => OImg u (oriented i o) H) W := by
  by_cases hok : i.ok ∧ (0 ≤ o ∧ o ≤ 7)
  · have hoo : orientOk i.W i.H o := ⟨hok.1.1, hok.1.2.1, hok.2⟩
    have hsz := orientSize_mul hoo
    have hsb := orientSize_bd hoo
    have hW := (hok.1).1; have hH := (hok.1).2.1; have hlen := (hok.1).2.2.1; have hlenN := (hok.1).lenN; have hwh := side_mul (w := i.W) (h := i.H) ⟨(hok.1).1.1, (hok.1).1.2, (hok.1).2.1.1, (hok.1).2.1.2⟩
    have hfl := ofill_length i o
    have hq := fun (y x : Nat) (hy : (y : Int) < i.H) (hx : (x : Int) < i.W) => orient_idx hok.1 hok.2 (x := (x : Int)) (y := (y : Int)) ⟨by omega, hx⟩ ⟨by omega, hy⟩
    have hp := fun (y x : Nat) (hy : (y : Int) < i.H) (hx : (x : Int) < i.W) => place_lt (w := i.W) (h := i.H) (x := (x : Int)) (y := (y : Int)) ⟨by omega, hx⟩ ⟨by omega, hy⟩
    have hmb := fun (y : Nat) (hy : (y : Int) < i.H) => mul_bd (a := (y : Int)) (b := i.W) (A := 16) (B := 16) (by omega) (by omega)
    (first | apply SYields.mk | apply SYieldsF.mk | skip); refine s_enter Tryz.func161 rfl Tryz.ntmps161 rfl ?_
    repeat' (first | exact rfl | (apply kO; (first | exact ov_pure rfl | (apply kOBin; (first | exact aBin | exact (ov_mul rfl rfl (by omega)) | exact (ov_mul rfl rfl (by have := hq j.1 x.1 (by omega) (by omega); omega)) | exact (ov_add rfl rfl (by have := hq j.1 x.1 (by omega) (by omega); omega)) | exact (ov_mul rfl rfl (by have := hmb j.1 (by omega); omega)) | exact (ov_add rfl rfl (by have := hp j.1 x.1 (by omega) (by omega); omega)))) | (apply kOCall; (first | (apply kCallF; (first | exact (ov_call rfl (fun w hw => c_simageOk i _ w (riA hw))) | exact (ov_call rfl (fun w hw => c_l01In _ _ _ w)) | exact (ov_call rfl (fun w hw => c_sorientSize _ _ _ w)) | exact (ov_call rfl (fun w hw => c_sorientPoint _ _ _ _ _ w)))) | (apply kCallB; (first | exact aBlt | exact aLenR)))) | (apply kOLoad; (first | exact (ov_ldR0 (fun w hw => (rrA hw)) rfl rfl (by have := hp j.1 x.1 (by omega) (by omega); omega) rfl) | exact aLdF | exact aLdR)) | exact ov_fieldAddr rfl | (apply kOIdx; (first | exact (ov_idxR (fun w hw => (rrA hw)) rfl rfl (by rw [hfl]; have := hq j.1 x.1 (by omega) (by omega); omega)) | exact (ov_idxR (fun w hw => (rrA hw)) rfl rfl (by have := hp j.1 x.1 (by omega) (by omega); omega)) | exact aIdx)) | exact aRest | exact aNew | exact (ov_field1 (ft := 31) rfl rfl rfl rfl))) | (refine kN ?_; (first | (refine kStore ?_; (first | (refine s_setI _ rfl rfl (by assumption) gpA (by rw [hfl]; have := hq j.1 x.1 (by omega) (by omega); omega) (fun H' hu => ?_)) | refine s_store1 _ rfl rfl gpA rfl (by rfl) ?_ | refine s_storeS _ rfl rfl gpA rfl rfl (by rfl) ?_ | refine s_storeS _ rfl rfl gpA rfl (ones_img oiA) (by rfl) ?_)) | refine s_boxS rfl rfl (fun b hb => ?_) | refine s_allocS rfl (fun b hb => ?_) | refine s_box1 rfl rfl rfl (fun b hb => ?_) | refine s_alloc1 rfl rfl (fun b hb => ?_) | (refine kWMake ?_; (refine s_make1 rfl rfl rfl ⟨by omega, by omega, by omega⟩ (by omega) rfl (fun b hb => ?_); rw [hsz])) | refine s_buildSlice0 rfl (fun b hb => ?_) | refine s_buildSlice rfl rfl rfl rfl rfl (fun b hb => ?_) | apply s_step)) | (refine kG ?_; (first | refine s_gyes rfl rfl rfl ?_ | refine s_gno rfl rfl rfl rfl rfl ?_ | ((first | refine s_split_d rfl rfl (fun h => ?_) (fun h => ?_) | refine s_split_n rfl rfl (fun h => ?_) (fun h => ?_)) <;> (try (first | contradiction | (exfalso; omega) | (exfalso; exact absurd hok.1 (by assumption))))) | refine s_split_nb rfl rfl (fun h => ?_) (fun h => ?_) | refine s_split rfl rfl (fun h => ?_) (fun h => ?_))) | (refine kS ?_; (first | refine h_exec rfl ?_ | refine h_take_nil rfl rfl rfl ?_ | refine h_take_pick rfl rfl rfl ?_ | refine h_nil ?_ | refine h_alt ?_ ?_ | apply h_take)) | (refine kBack ?_; (first | refine h_back_last rfl ?_ | refine h_backN rfl subA ?_)) | refine l_then ?_ | (refine kC ?_; (first | (refine kReg 12 ?_; refine c_regionSN (SPlan.take 0 (SPlan.take 1 (SPlan.take 2 (SPlan.take 3 (SPlan.take 4 (SPlan.take 5 (SPlan.take 6 (SPlan.take 7 (SPlan.take 8 (SPlan.take 9 (SPlan.take 10 (SPlan.take 11 (SPlan.take 12 (SPlan.take 13 (SPlan.take 14 (SPlan.take 15 (SPlan.take 16 (SPlan.take 17 (SPlan.run 18 SPlan.done))))))))))))))))))) (some 18) rfl rfl (by decide +kernel) ?_) | (refine kReg 12 ?_; refine c_regionSN (SPlan.take 0 (SPlan.take 1 (SPlan.take 2 (SPlan.take 3 (SPlan.take 4 (SPlan.take 5 (SPlan.take 6 (SPlan.take 7 (SPlan.take 8 (SPlan.take 9 (SPlan.take 10 (SPlan.take 11 (SPlan.take 12 (SPlan.take 13 (SPlan.take 14 (SPlan.take 15 (SPlan.take 16 (SPlan.take 17 (SPlan.run 18 SPlan.done))))))))))))))))))) none rfl rfl (by decide +kernel) ?_) | (refine c_loopV (ι := Nat × SPiece) (fun j => (j.1 : Int) ≤ i.H ∧ OInts 3 _ (ofill i o (j.1 * i.W.toNat)) j.2) (fun j => [(8, .int .i64 (j.1 : Int))]) (fun j => [_, j.2, _, _]) (fun j => i.H.toNat - j.1) (0, _) ⟨by dsimp only; omega, by dsimp only; rw [Nat.zero_mul]; exact OInts.full _ _ 0 (by unfold maxLen; omega)⟩ rfl (fun _ => rfl) ⟨rfl, trivial⟩ (fun w hw => hw) (fun j hj => ?_); obtain ⟨hj1, hj2⟩ := hj) | (refine c_loopV (ι := Nat × SPiece) (fun x => (x.1 : Int) ≤ i.W ∧ OInts 3 _ (ofill i o (j.1 * i.W.toNat + x.1)) x.2) (fun x => [(9, .int .i64 (x.1 : Int))]) (fun x => [_, x.2, _, _]) (fun x => i.W.toNat - x.1) (0, _) ⟨by dsimp only; omega, hj2⟩ rfl (fun _ => rfl) ⟨rfl, trivial⟩ (fun w hw => hw) (fun x hx => ?_); obtain ⟨hx1, hx2⟩ := hx) | refine c_seq ?_ | refine c_regionN rfl ?_ | refine c_ret ?_ | (refine kCond ?_; (first | refine c_cond_t rfl ?_ | refine c_cond_f rfl ?_ | ((first | refine c_cond_d rfl (fun h => ?_) (fun h => ?_) | refine c_cond_n rfl (fun h => ?_) (fun h => ?_)) <;> (try (first | contradiction | (exfalso; omega) | (exfalso; exact absurd hok.1 (by assumption))))) | refine c_cond_nb rfl (fun h => ?_) (fun h => ?_) | refine c_cond rfl (fun h => ?_) (fun h => ?_))) | refine c_block ?_ | refine c_skip ?_ | refine c_exit ?_ | refine c_regionQN rfl rfl (by decide +kernel) ?_)) | apply s_stepQ | (refine kQG ?_; (first | refine s_gyesQ rfl rfl rfl ?_ | refine s_gnoQ rfl rfl rfl rfl rfl ?_ | ((first | refine s_splitQ_d rfl rfl (fun h => ?_) (fun h => ?_) | refine s_splitQ_n rfl rfl (fun h => ?_) (fun h => ?_)) <;> (try (first | contradiction | (exfalso; omega) | (exfalso; exact absurd hok.1 (by assumption))))) | refine s_splitQ_nb rfl rfl (fun h => ?_) (fun h => ?_) | refine s_splitQ rfl rfl (fun h => ?_) (fun h => ?_))) | refine lQ_then ?_ | refine lQ_ends ?_ | (refine kE ?_; (first | refine e_then_r ?_ | refine e_block_r ?_ | refine e_then_n ?_ | refine e_then_x ?_ | refine e_block_n ?_ | refine e_block_x ?_ | refine e_block_y rfl ?_)) | refine l_ends ?_)
    · rw [ofill_next' hok.1 hok.2 (by omega) (by omega)] at hu
      exact e_round (x.1 + 1, H') ⟨by dsimp only; omega, hu⟩ ⟨rfl, (by repeat' first | exact trivial | refine ⟨rfl, ?_⟩)⟩ (fun w hw => hw) (by dsimp only; omega)
    · rw [rows_next (w := i.W) (by omega)] at hx2
      exact e_round (j.1 + 1, x.2) ⟨by dsimp only; omega, hx2⟩ ⟨rfl, (by repeat' first | exact trivial | refine ⟨rfl, ?_⟩)⟩ (fun w hw => hw) (by dsimp only; omega)
    · rw [(rows_end (w := i.W) (h := i.H) (by omega) (by omega)).trans hlenN.symm] at hj2
      refine s_leaveSF rfl rfl rfl fwA (fun w hw => ?_)
      refine ⟨_, _, rfl, ?_, hw.toFresh (i := 1) rfl⟩
      unfold oriented
      rw [if_pos hok]
      exact ⟨_, rfl, hj2⟩
  · (first | apply SYields.mk | apply SYieldsF.mk | skip); refine s_enter Tryz.func161 rfl Tryz.ntmps161 rfl ?_
    repeat' (first | exact rfl | (apply kO; (first | exact ov_pure rfl | (apply kOBin; (first | exact aBin)) | (apply kOCall; (first | (apply kCallF; (first | exact (ov_call rfl (fun w hw => c_simageOk i _ w (riA hw))) | exact (ov_call rfl (fun w hw => c_l01In _ _ _ w)) | exact (ov_call rfl (fun w hw => c_sorientSize _ _ _ w)))) | (apply kCallB; (first | exact aBlt | exact aLenR)))) | (apply kOLoad; (first | exact aLdF | exact aLdR)) | exact ov_fieldAddr rfl | (apply kOIdx; (first | exact aIdx)) | exact aRest | exact aNew | exact (ov_field1 (ft := 31) rfl rfl rfl rfl))) | (refine kN ?_; (first | (refine kStore ?_; (first | refine s_store1 _ rfl rfl gpA rfl (by rfl) ?_ | refine s_storeS _ rfl rfl gpA rfl rfl (by rfl) ?_ | refine s_storeS _ rfl rfl gpA rfl (ones_img oiA) (by rfl) ?_)) | refine s_boxS rfl rfl (fun b hb => ?_) | refine s_allocS rfl (fun b hb => ?_) | refine s_box1 rfl rfl rfl (fun b hb => ?_) | refine s_alloc1 rfl rfl (fun b hb => ?_) | refine s_buildSlice0 rfl (fun b hb => ?_) | refine s_buildSlice rfl rfl rfl rfl rfl (fun b hb => ?_) | apply s_step)) | (refine kG ?_; (first | refine s_gyes rfl rfl rfl ?_ | refine s_gno rfl rfl rfl rfl rfl ?_ | ((first | refine s_split_d rfl rfl (fun h => ?_) (fun h => ?_) | refine s_split_n rfl rfl (fun h => ?_) (fun h => ?_)) <;> (try (first | contradiction | (exfalso; omega) | (exfalso; exact hok ⟨by assumption, by assumption⟩)))) | refine s_split_nb rfl rfl (fun h => ?_) (fun h => ?_) | refine s_split rfl rfl (fun h => ?_) (fun h => ?_))) | refine l_then ?_ | (refine kC ?_; (first | refine c_seq ?_ | refine c_regionN rfl ?_ | refine c_ret ?_ | (refine kCond ?_; (first | refine c_cond_t rfl ?_ | refine c_cond_f rfl ?_ | ((first | refine c_cond_d rfl (fun h => ?_) (fun h => ?_) | refine c_cond_n rfl (fun h => ?_) (fun h => ?_)) <;> (try (first | contradiction | (exfalso; omega) | (exfalso; exact hok ⟨by assumption, by assumption⟩)))) | refine c_cond_nb rfl (fun h => ?_) (fun h => ?_) | refine c_cond rfl (fun h => ?_) (fun h => ?_))) | refine c_block ?_ | refine c_skip ?_ | refine c_exit ?_ | refine c_regionQN rfl rfl (by decide +kernel) ?_)) | apply s_stepQ | (refine kQG ?_; (first | refine s_gyesQ rfl rfl rfl ?_ | refine s_gnoQ rfl rfl rfl rfl rfl ?_ | ((first | refine s_splitQ_d rfl rfl (fun h => ?_) (fun h => ?_) | refine s_splitQ_n rfl rfl (fun h => ?_) (fun h => ?_)) <;> (try (first | contradiction | (exfalso; omega) | (exfalso; exact hok ⟨by assumption, by assumption⟩)))) | refine s_splitQ_nb rfl rfl (fun h => ?_) (fun h => ?_) | refine s_splitQ rfl rfl (fun h => ?_) (fun h => ?_))) | refine lQ_then ?_ | refine lQ_ends ?_ | (refine kE ?_; (first | refine e_then_r ?_ | refine e_block_r ?_ | refine e_then_n ?_ | refine e_then_x ?_ | refine e_block_n ?_ | refine e_block_x ?_ | refine e_block_y rfl ?_)) | refine l_ends ?_)
    all_goals (refine kE ?_; refine s_leaveSF rfl rfl rfl fwA (fun w hw => ?_))
    all_goals (unfold oriented; rw [if_neg hok]; exact ⟨_, [], rfl, ⟨_, rfl, OInts.nil _⟩, hw.toFresh0⟩)
theorem c_scaleClosure (i : DImg) (d : Value) (pw ph x y : Int) (p q r : Nat) (W : World) (hi : i.ok) (hpw : 1 ≤ pw ∧ pw ≤ 16) (hph : 1 ≤ ph ∧ ph ≤ 16) (hx : 0 ≤ x ∧ x < pw) (hy : 0 ≤ y ∧ y < ph) (hd : RInts W d i.data)
    (c1 : ∀ j u, (cImg i d)[j]? = some u → W.cell? ⟨p, j, none⟩ = some u) (c2 : ∀ j u, [Value.int .i64 ph][j]? = some u → W.cell? ⟨q, j, none⟩ = some u) (c3 : ∀ j u, [Value.int .i64 pw][j]? = some u → W.cell? ⟨r, j, none⟩ = some u) :
    SYields Tryz.prog 190 #[.int .i64 x, .int .i64 y, .pointer (some ⟨p, 0, none⟩), .pointer (some ⟨q, 0, none⟩), .pointer (some ⟨r, 0, none⟩)] (.int .i64 (scaleAt i pw ph x y)) W := by
  have hs := scale_idx hi hpw hph hx hy
  rw [← hs.2.2.2]
  (first | apply SYields.mk | apply SYieldsF.mk | skip); refine s_enter Tryz.func190 rfl Tryz.ntmps190 rfl ?_
  repeat' (first | exact rfl | (apply kO; (first | exact ov_pure rfl | (apply kOBin; (first | exact aBin)) | (apply kOCall; (first | (apply kCallF; (first | exact (ov_call rfl (fun w hw => c_iscalePoint _ _ _ w)))) | (apply kCallB; (first | exact aBlt | exact aLenR)))) | (apply kOLoad; (first | exact (ov_load_at rfl rfl (fun w hw => hw.cells rfl _ _ (c1 0 _ rfl))) | exact (ov_load_at rfl rfl (fun w hw => hw.cells rfl _ _ (c1 1 _ rfl))) | exact (ov_load_at rfl rfl (fun w hw => hw.cells rfl _ _ (c1 2 _ rfl))) | exact (ov_load_at rfl rfl (fun w hw => hw.cells rfl _ _ (c2 0 _ rfl))) | exact (ov_load_at rfl rfl (fun w hw => hw.cells rfl _ _ (c3 0 _ rfl))) | exact aLdF | exact aLdR)) | exact ov_fieldAddr rfl | (apply kOIdx; (first | exact aIdx)) | exact aRest | exact aNew | exact (ov_field1 (ft := 31) rfl rfl rfl rfl))) | (refine kN ?_; (first | (refine kStore ?_; (first | refine s_store1 _ rfl rfl gpA rfl (by rfl) ?_ | refine s_storeS _ rfl rfl gpA rfl rfl (by rfl) ?_ | refine s_storeS _ rfl rfl gpA rfl (ones_img oiA) (by rfl) ?_)) | refine s_boxS rfl rfl (fun b hb => ?_) | refine s_allocS rfl (fun b hb => ?_) | refine s_box1 rfl rfl rfl (fun b hb => ?_) | refine s_alloc1 rfl rfl (fun b hb => ?_) | refine s_buildSlice0 rfl (fun b hb => ?_) | refine s_buildSlice rfl rfl rfl rfl rfl (fun b hb => ?_) | apply s_step)) | (refine kG ?_; (first | refine s_gyes rfl rfl rfl ?_ | refine s_gno rfl rfl rfl rfl rfl ?_ | ((first | refine s_split_d rfl rfl (fun h => ?_) (fun h => ?_) | refine s_split_n rfl rfl (fun h => ?_) (fun h => ?_)) <;> (try (first | contradiction | (exfalso; omega)))) | refine s_split_nb rfl rfl (fun h => ?_) (fun h => ?_) | refine s_split rfl rfl (fun h => ?_) (fun h => ?_))) | refine l_then ?_ | (refine kC ?_; (first | refine c_seq ?_ | refine c_regionN rfl ?_ | refine c_ret ?_ | (refine kCond ?_; (first | refine c_cond_t rfl ?_ | refine c_cond_f rfl ?_ | ((first | refine c_cond_d rfl (fun h => ?_) (fun h => ?_) | refine c_cond_n rfl (fun h => ?_) (fun h => ?_)) <;> (try (first | contradiction | (exfalso; omega)))) | refine c_cond_nb rfl (fun h => ?_) (fun h => ?_) | refine c_cond rfl (fun h => ?_) (fun h => ?_))) | refine c_block ?_ | refine c_skip ?_ | refine c_exit ?_ | refine c_regionQN rfl rfl (by decide +kernel) ?_)) | apply s_stepQ | (refine kQG ?_; (first | refine s_gyesQ rfl rfl rfl ?_ | refine s_gnoQ rfl rfl rfl rfl rfl ?_ | ((first | refine s_splitQ_d rfl rfl (fun h => ?_) (fun h => ?_) | refine s_splitQ_n rfl rfl (fun h => ?_) (fun h => ?_)) <;> (try (first | contradiction | (exfalso; omega)))) | refine s_splitQ_nb rfl rfl (fun h => ?_) (fun h => ?_) | refine s_splitQ rfl rfl (fun h => ?_) (fun h => ?_))) | refine lQ_then ?_ | refine lQ_ends ?_ | (refine kE ?_; (first | refine e_then_r ?_ | refine e_block_r ?_ | refine e_then_n ?_ | refine e_then_x ?_ | refine e_block_n ?_ | refine e_block_x ?_ | refine e_block_y rfl ?_)) | refine l_ends ?_)
  all_goals refine s_leave1 rfl rfl (fun w hw => ⟨?_, hw.below⟩)
  all_goals rfl
theorem c_iscaled (i : DImg) (d : Value) (pw ph : Int) (W : World) (hd : RInts W d i.data) : SYieldsF Tryz.prog 185 #[vImg i d, .int .i64 pw, .int .i64 ph] (fun u H => OImg u (scaled i pw ph) H) W := by
  by_cases hok : i.ok ∧ (1 ≤ pw ∧ pw ≤ 16) ∧ (1 ≤ ph ∧ ph ≤ 16)
  · (first | apply SYields.mk | apply SYieldsF.mk | skip); refine s_enter Tryz.func185 rfl Tryz.ntmps185 rfl ?_
    repeat' (first | exact rfl | (apply kO; (first | exact ov_pure rfl | (apply kOBin; (first | exact aBin)) | (apply kOCall; (first | (apply kCallF; (first | exact (ov_call rfl (fun w hw => c_iimageOk i _ w (riA hw))) | exact (ov_call rfl (fun w hw => c_isSide _ w)))) | (apply kCallB; (first | exact aBlt | exact aLenR)))) | (apply kOLoad; (first | exact aLdF | exact aLdR)) | exact ov_fieldAddr rfl | (apply kOIdx; (first | exact aIdx)) | exact aRest | exact aNew | exact (ov_field1 (ft := 31) rfl rfl rfl rfl))) | (refine kN ?_; (first | (refine kCall ?_; (first | (refine kWFunc ?_; (refine s_callF (fun u H => OImg u ⟨pw, ph, mapTo (scaleAt i pw ph) pw (pw * ph).toNat⟩ H) rfl (fun W1 hw1 => c_mapImage pw ph _ _ (scaleAt i pw ph) W1 hok.2.1 hok.2.2 (fun x y hx hy W2 hb2 => c_scaleClosure i d pw ph x y _ _ _ W2 hok.1 hok.2.1 hok.2.2 hx hy ((hd.keep (hw1.cells rfl)).keep (below_cells hb2)) (fun j u hu => below_cells hb2 _ _ (hw1.captured gpA j u hu)) (fun j u hu => below_cells hb2 _ _ (hw1.captured gpA j u hu)) (fun j u hu => below_cells hb2 _ _ (hw1.captured gpA j u hu)))) rfl (fun u H hu => ?_); obtain ⟨d', rfl, hu⟩ := hu; have f1 := hu.form; obtain ⟨_, _, rfl⟩ := f1)) | apply s_step)) | (refine kStore ?_; (first | refine s_store1 _ rfl rfl gpA rfl (by rfl) ?_ | refine s_storeS _ rfl rfl gpA rfl rfl (by rfl) ?_ | refine s_storeS _ rfl rfl gpA rfl (ones_img oiA) (by rfl) ?_)) | refine s_boxS rfl rfl (fun b hb => ?_) | refine s_allocS rfl (fun b hb => ?_) | refine s_box1 rfl rfl rfl (fun b hb => ?_) | refine s_alloc1 rfl rfl (fun b hb => ?_) | refine s_buildSlice0 rfl (fun b hb => ?_) | refine s_buildSlice rfl rfl rfl rfl rfl (fun b hb => ?_) | apply s_step)) | (refine kG ?_; (first | refine s_gyes rfl rfl rfl ?_ | refine s_gno rfl rfl rfl rfl rfl ?_ | ((first | refine s_split_d rfl rfl (fun h => ?_) (fun h => ?_) | refine s_split_n rfl rfl (fun h => ?_) (fun h => ?_)) <;> (try (first | contradiction | (exfalso; omega) | (exfalso; exact absurd hok.1 (by assumption))))) | refine s_split_nb rfl rfl (fun h => ?_) (fun h => ?_) | refine s_split rfl rfl (fun h => ?_) (fun h => ?_))) | refine l_then ?_ | (refine kC ?_; (first | refine c_seq ?_ | refine c_regionN rfl ?_ | refine c_ret ?_ | (refine kCond ?_; (first | refine c_cond_t rfl ?_ | refine c_cond_f rfl ?_ | ((first | refine c_cond_d rfl (fun h => ?_) (fun h => ?_) | refine c_cond_n rfl (fun h => ?_) (fun h => ?_)) <;> (try (first | contradiction | (exfalso; omega) | (exfalso; exact absurd hok.1 (by assumption))))) | refine c_cond_nb rfl (fun h => ?_) (fun h => ?_) | refine c_cond rfl (fun h => ?_) (fun h => ?_))) | refine c_block ?_ | refine c_skip ?_ | refine c_exit ?_ | refine c_regionQN rfl rfl (by decide +kernel) ?_)) | apply s_stepQ | (refine kQG ?_; (first | refine s_gyesQ rfl rfl rfl ?_ | refine s_gnoQ rfl rfl rfl rfl rfl ?_ | ((first | refine s_splitQ_d rfl rfl (fun h => ?_) (fun h => ?_) | refine s_splitQ_n rfl rfl (fun h => ?_) (fun h => ?_)) <;> (try (first | contradiction | (exfalso; omega) | (exfalso; exact absurd hok.1 (by assumption))))) | refine s_splitQ_nb rfl rfl (fun h => ?_) (fun h => ?_) | refine s_splitQ rfl rfl (fun h => ?_) (fun h => ?_))) | refine lQ_then ?_ | refine lQ_ends ?_ | (refine kE ?_; (first | refine e_then_r ?_ | refine e_block_r ?_ | refine e_then_n ?_ | refine e_then_x ?_ | refine e_block_n ?_ | refine e_block_x ?_ | refine e_block_y rfl ?_)) | refine l_ends ?_)
    all_goals (refine kE ?_; refine s_leaveSF rfl rfl rfl fwA (fun w hw => ?_))
    all_goals (refine ⟨_, _, rfl, ?_, hw.toFresh (i := 0) rfl⟩; unfold scaled; rw [if_pos hok]; exact ⟨_, rfl, hu⟩)
  · (first | apply SYields.mk | apply SYieldsF.mk | skip); refine s_enter Tryz.func185 rfl Tryz.ntmps185 rfl ?_
    repeat' (first | exact rfl | (apply kO; (first | exact ov_pure rfl | (apply kOBin; (first | exact aBin)) | (apply kOCall; (first | (apply kCallF; (first | exact (ov_call rfl (fun w hw => c_iimageOk i _ w (riA hw))) | exact (ov_call rfl (fun w hw => c_isSide _ w)))) | (apply kCallB; (first | exact aBlt | exact aLenR)))) | (apply kOLoad; (first | exact aLdF | exact aLdR)) | exact ov_fieldAddr rfl | (apply kOIdx; (first | exact aIdx)) | exact aRest | exact aNew | exact (ov_field1 (ft := 31) rfl rfl rfl rfl))) | (refine kN ?_; (first | (refine kStore ?_; (first | refine s_store1 _ rfl rfl gpA rfl (by rfl) ?_ | refine s_storeS _ rfl rfl gpA rfl rfl (by rfl) ?_ | refine s_storeS _ rfl rfl gpA rfl (ones_img oiA) (by rfl) ?_)) | refine s_boxS rfl rfl (fun b hb => ?_) | refine s_allocS rfl (fun b hb => ?_) | refine s_box1 rfl rfl rfl (fun b hb => ?_) | refine s_alloc1 rfl rfl (fun b hb => ?_) | refine s_buildSlice0 rfl (fun b hb => ?_) | refine s_buildSlice rfl rfl rfl rfl rfl (fun b hb => ?_) | apply s_step)) | (refine kG ?_; (first | refine s_gyes rfl rfl rfl ?_ | refine s_gno rfl rfl rfl rfl rfl ?_ | ((first | refine s_split_d rfl rfl (fun h => ?_) (fun h => ?_) | refine s_split_n rfl rfl (fun h => ?_) (fun h => ?_)) <;> (try (first | contradiction | (exfalso; omega) | (exfalso; exact hok ⟨by assumption, by omega, by omega⟩)))) | refine s_split_nb rfl rfl (fun h => ?_) (fun h => ?_) | refine s_split rfl rfl (fun h => ?_) (fun h => ?_))) | refine l_then ?_ | (refine kC ?_; (first | refine c_seq ?_ | refine c_regionN rfl ?_ | refine c_ret ?_ | (refine kCond ?_; (first | refine c_cond_t rfl ?_ | refine c_cond_f rfl ?_ | ((first | refine c_cond_d rfl (fun h => ?_) (fun h => ?_) | refine c_cond_n rfl (fun h => ?_) (fun h => ?_)) <;> (try (first | contradiction | (exfalso; omega) | (exfalso; exact hok ⟨by assumption, by omega, by omega⟩)))) | refine c_cond_nb rfl (fun h => ?_) (fun h => ?_) | refine c_cond rfl (fun h => ?_) (fun h => ?_))) | refine c_block ?_ | refine c_skip ?_ | refine c_exit ?_ | refine c_regionQN rfl rfl (by decide +kernel) ?_)) | apply s_stepQ | (refine kQG ?_; (first | refine s_gyesQ rfl rfl rfl ?_ | refine s_gnoQ rfl rfl rfl rfl rfl ?_ | ((first | refine s_splitQ_d rfl rfl (fun h => ?_) (fun h => ?_) | refine s_splitQ_n rfl rfl (fun h => ?_) (fun h => ?_)) <;> (try (first | contradiction | (exfalso; omega) | (exfalso; exact hok ⟨by assumption, by omega, by omega⟩)))) | refine s_splitQ_nb rfl rfl (fun h => ?_) (fun h => ?_) | refine s_splitQ rfl rfl (fun h => ?_) (fun h => ?_))) | refine lQ_then ?_ | refine lQ_ends ?_ | (refine kE ?_; (first | refine e_then_r ?_ | refine e_block_r ?_ | refine e_then_n ?_ | refine e_then_x ?_ | refine e_block_n ?_ | refine e_block_x ?_ | refine e_block_y rfl ?_)) | refine l_ends ?_)
    all_goals (refine kE ?_; refine s_leaveSF rfl rfl rfl fwA (fun w hw => ?_))
    all_goals (unfold scaled; rw [if_neg hok]; exact ⟨_, [], rfl, ⟨_, rfl, OInts.nil _⟩, hw.toFresh0⟩)
theorem c_sscaled (i : DImg) (d : Value) (p q : Int) (W : World) (hd : RInts W d i.data) : SYieldsF Tryz.prog 162 #[vImg i d, .int .i64 p, .int .i64 q] (fun u H => OImg u (scaled i p q) H) W := by
  by_cases hok : i.ok ∧ (1 ≤ p ∧ p ≤ 16) ∧ (1 ≤ q ∧ q ≤ 16)
  · have hW := (hok.1).1; have hH := (hok.1).2.1; have hlen := (hok.1).2.2.1; have hlenN := (hok.1).lenN; have hwh := side_mul (w := i.W) (h := i.H) ⟨(hok.1).1.1, (hok.1).1.2, (hok.1).2.1.1, (hok.1).2.1.2⟩
    have hq := fun (y x : Nat) (hy : (y : Int) < q) (hx : (x : Int) < p) => scale_idx hok.1 hok.2.1 hok.2.2 (x := (x : Int)) (y := (y : Int)) ⟨by omega, hx⟩ ⟨by omega, hy⟩
    have hrow := fun (y : Nat) (hy : (y : Int) ≤ q) => rows_le hok.2.1 hok.2.2 hy
    have hpq := hok.2
    (first | apply SYields.mk | apply SYieldsF.mk | skip); refine s_enter Tryz.func162 rfl Tryz.ntmps162 rfl ?_
    repeat' (first | exact rfl | (apply kO; (first | exact ov_pure rfl | (apply kOBin; (first | exact aBin | exact (ov_mul rfl rfl (by have := hq j.1 x.1 (by omega) (by omega); omega)) | exact (ov_add rfl rfl (by have := hq j.1 x.1 (by omega) (by omega); omega)))) | (apply kOCall; (first | (apply kCallF; (first | exact (ov_call rfl (fun w hw => c_simageOk i _ w (riA hw))) | exact (ov_call rfl (fun w hw => c_l01In _ _ _ w)) | exact (ov_call rfl (fun w hw => c_sscalePoint _ _ _ w)))) | (apply kCallB; (first | exact aBlt | exact aLenR)))) | (apply kOLoad; (first | exact (ov_ldR0 (fun w hw => (rrA hw)) rfl rfl (by have := hq j.1 x.1 (by omega) (by omega); omega) rfl) | exact aLdF | exact aLdR)) | exact ov_fieldAddr rfl | (apply kOIdx; (first | exact (ov_idxR (fun w hw => (rrA hw)) rfl rfl (by have := hq j.1 x.1 (by omega) (by omega); omega)) | exact aIdx)) | exact aRest | exact aNew | exact (ov_field1 (ft := 31) rfl rfl rfl rfl))) | (refine kN ?_; (first | (refine kCall ?_; (first | (refine kWApp ?_; (refine s_appendI _ _ (ys := [_]) rfl rfl (by assumption) gpA gpA rfl rfl (by rw [mapTo_length]; have := hrow j.1 (by omega); omega) (by decide) rfl (fun v' H' hv' => ?_); have f1 := hv'.form; obtain ⟨ua, uc, rfl⟩ := f1)) | apply s_step)) | (refine kStore ?_; (first | refine s_store1 _ rfl rfl gpA rfl (by rfl) ?_ | refine s_storeS _ rfl rfl gpA rfl rfl (by rfl) ?_ | refine s_storeS _ rfl rfl gpA rfl (ones_img oiA) (by rfl) ?_)) | refine s_boxS rfl rfl (fun b hb => ?_) | refine s_allocS rfl (fun b hb => ?_) | refine s_box1 rfl rfl rfl (fun b hb => ?_) | refine s_alloc1 rfl rfl (fun b hb => ?_) | refine s_buildSlice0 rfl (fun b hb => ?_) | refine s_buildSlice rfl rfl rfl rfl rfl (fun b hb => ?_) | apply s_step)) | (refine kG ?_; (first | refine s_gyes rfl rfl rfl ?_ | refine s_gno rfl rfl rfl rfl rfl ?_ | ((first | refine s_split_d rfl rfl (fun h => ?_) (fun h => ?_) | refine s_split_n rfl rfl (fun h => ?_) (fun h => ?_)) <;> (try (first | contradiction | (exfalso; omega) | (exfalso; exact absurd hok.1 (by assumption))))) | refine s_split_nb rfl rfl (fun h => ?_) (fun h => ?_) | refine s_split rfl rfl (fun h => ?_) (fun h => ?_))) | (refine kS ?_; (first | refine h_exec rfl ?_ | refine h_take_nil rfl rfl rfl ?_ | refine h_take_pick rfl rfl rfl ?_ | refine h_nil ?_ | refine h_alt ?_ ?_ | apply h_take)) | (refine kBack ?_; (first | refine h_back_last rfl ?_ | refine h_backN rfl subA ?_)) | refine l_then ?_ | (refine kC ?_; (first | (refine kReg 10 ?_; refine c_regionSubN (SPlan.take 0 (SPlan.take 1 (SPlan.take 2 (SPlan.take 3 (SPlan.take 4 (SPlan.take 5 (SPlan.take 6 (SPlan.take 7 (SPlan.take 9 (SPlan.take 10 (SPlan.take 12 (SPlan.take 13 (SPlan.take 14 (SPlan.take 15 (SPlan.run 8 (SPlan.take 11 (SPlan.run 16 (SPlan.take 17 (SPlan.take 18 (SPlan.take 19 (SPlan.run 20 (SPlan.run 21 (SPlan.take 22 (SPlan.run 23 SPlan.done)))))))))))))))))))))))) (some 23) [true, false, true, true] rfl rfl rfl (by decide +kernel) ?_) | (refine c_loopV (ι := Nat × Value × SPiece) (fun j => (j.1 : Int) ≤ q ∧ OInts 3 j.2.1 (mapTo (scaleAt i p q) p (j.1 * p.toNat)) j.2.2) (fun j => [(8, .int .i64 (j.1 : Int))]) (fun j => [[(_, srow [.int .i64 p, .int .i64 q, j.2.1] 49)], j.2.2, _, _]) (fun j => q.toNat - j.1) (0, _, []) ⟨by dsimp only; omega, by dsimp only; rw [Nat.zero_mul]; exact OInts.nil _⟩ rfl (fun _ => rfl) ⟨rfl, trivial⟩ (fun w hw => hw.nil1) (fun j hj => ?_); obtain ⟨hj1, hj2⟩ := hj) | (refine c_loopV (ι := Nat × Value × SPiece) (fun x => (x.1 : Int) ≤ p ∧ OInts 3 x.2.1 (mapTo (scaleAt i p q) p (j.1 * p.toNat + x.1)) x.2.2) (fun x => [(9, .int .i64 (x.1 : Int))]) (fun x => [[(_, srow [.int .i64 p, .int .i64 q, x.2.1] 49)], x.2.2, _, _]) (fun x => p.toNat - x.1) (0, _, _) ⟨by dsimp only; omega, hj2⟩ rfl (fun _ => rfl) ⟨rfl, trivial⟩ (fun w hw => hw) (fun x hx => ?_); obtain ⟨hx1, hx2⟩ := hx) | refine c_seq ?_ | refine c_regionN rfl ?_ | refine c_ret ?_ | (refine kCond ?_; (first | refine c_cond_t rfl ?_ | refine c_cond_f rfl ?_ | ((first | refine c_cond_d rfl (fun h => ?_) (fun h => ?_) | refine c_cond_n rfl (fun h => ?_) (fun h => ?_)) <;> (try (first | contradiction | (exfalso; omega) | (exfalso; exact absurd hok.1 (by assumption))))) | refine c_cond_nb rfl (fun h => ?_) (fun h => ?_) | refine c_cond rfl (fun h => ?_) (fun h => ?_))) | refine c_block ?_ | refine c_skip ?_ | refine c_exit ?_ | refine c_regionQN rfl rfl (by decide +kernel) ?_)) | apply s_stepQ | (refine kQG ?_; (first | refine s_gyesQ rfl rfl rfl ?_ | refine s_gnoQ rfl rfl rfl rfl rfl ?_ | ((first | refine s_splitQ_d rfl rfl (fun h => ?_) (fun h => ?_) | refine s_splitQ_n rfl rfl (fun h => ?_) (fun h => ?_)) <;> (try (first | contradiction | (exfalso; omega) | (exfalso; exact absurd hok.1 (by assumption))))) | refine s_splitQ_nb rfl rfl (fun h => ?_) (fun h => ?_) | refine s_splitQ rfl rfl (fun h => ?_) (fun h => ?_))) | refine lQ_then ?_ | refine lQ_ends ?_ | (refine kE ?_; (first | refine e_then_r ?_ | refine e_block_r ?_ | refine e_then_n ?_ | refine e_then_x ?_ | refine e_block_n ?_ | refine e_block_x ?_ | refine e_block_y rfl ?_)) | refine l_ends ?_)
    · refine e_round (x.1 + 1, _, H') ⟨by dsimp only; omega, by dsimp only; rw [← mapTo_row (by omega) _ _ (by omega), ← (hq j.1 x.1 (by omega) (by omega)).2.2.2]; exact hv'⟩ ⟨rfl, (by repeat' first | exact trivial | refine ⟨rfl, ?_⟩)⟩ (fun w hw => hw.sub (by repeat' first | exact List.nil_sublist _ | exact List.Sublist.slnil | refine List.Sublist.cons_cons _ ?_ | refine List.Sublist.cons _ ?_)) (by dsimp only; omega)
    · rw [rows_next (w := p) (by omega)] at hx2
      exact e_round (j.1 + 1, x.2.1, x.2.2) ⟨by dsimp only; omega, hx2⟩ ⟨rfl, (by repeat' first | exact trivial | refine ⟨rfl, ?_⟩)⟩ (fun w hw => hw) (by dsimp only; omega)
    · rw [rows_end (w := p) (h := q) (by omega) (by omega)] at hj2
      refine s_leaveSF rfl rfl rfl fwA (fun w hw => ?_)
      refine ⟨_, _, rfl, ?_, hw.toFresh (i := 1) rfl⟩
      unfold scaled
      rw [if_pos hok]
      exact ⟨_, rfl, hj2⟩
  · (first | apply SYields.mk | apply SYieldsF.mk | skip); refine s_enter Tryz.func162 rfl Tryz.ntmps162 rfl ?_
    repeat' (first | exact rfl | (apply kO; (first | exact ov_pure rfl | (apply kOBin; (first | exact aBin)) | (apply kOCall; (first | (apply kCallF; (first | exact (ov_call rfl (fun w hw => c_simageOk i _ w (riA hw))) | exact (ov_call rfl (fun w hw => c_l01In _ _ _ w)))) | (apply kCallB; (first | exact aBlt | exact aLenR)))) | (apply kOLoad; (first | exact aLdF | exact aLdR)) | exact ov_fieldAddr rfl | (apply kOIdx; (first | exact aIdx)) | exact aRest | exact aNew | exact (ov_field1 (ft := 31) rfl rfl rfl rfl))) | (refine kN ?_; (first | (refine kStore ?_; (first | refine s_store1 _ rfl rfl gpA rfl (by rfl) ?_ | refine s_storeS _ rfl rfl gpA rfl rfl (by rfl) ?_ | refine s_storeS _ rfl rfl gpA rfl (ones_img oiA) (by rfl) ?_)) | refine s_boxS rfl rfl (fun b hb => ?_) | refine s_allocS rfl (fun b hb => ?_) | refine s_box1 rfl rfl rfl (fun b hb => ?_) | refine s_alloc1 rfl rfl (fun b hb => ?_) | refine s_buildSlice0 rfl (fun b hb => ?_) | refine s_buildSlice rfl rfl rfl rfl rfl (fun b hb => ?_) | apply s_step)) | (refine kG ?_; (first | refine s_gyes rfl rfl rfl ?_ | refine s_gno rfl rfl rfl rfl rfl ?_ | ((first | refine s_split_d rfl rfl (fun h => ?_) (fun h => ?_) | refine s_split_n rfl rfl (fun h => ?_) (fun h => ?_)) <;> (try (first | contradiction | (exfalso; omega) | (exfalso; exact hok ⟨by assumption, by omega, by omega⟩)))) | refine s_split_nb rfl rfl (fun h => ?_) (fun h => ?_) | refine s_split rfl rfl (fun h => ?_) (fun h => ?_))) | refine l_then ?_ | (refine kC ?_; (first | refine c_seq ?_ | refine c_regionN rfl ?_ | refine c_ret ?_ | (refine kCond ?_; (first | refine c_cond_t rfl ?_ | refine c_cond_f rfl ?_ | ((first | refine c_cond_d rfl (fun h => ?_) (fun h => ?_) | refine c_cond_n rfl (fun h => ?_) (fun h => ?_)) <;> (try (first | contradiction | (exfalso; omega) | (exfalso; exact hok ⟨by assumption, by omega, by omega⟩)))) | refine c_cond_nb rfl (fun h => ?_) (fun h => ?_) | refine c_cond rfl (fun h => ?_) (fun h => ?_))) | refine c_block ?_ | refine c_skip ?_ | refine c_exit ?_ | refine c_regionQN rfl rfl (by decide +kernel) ?_)) | apply s_stepQ | (refine kQG ?_; (first | refine s_gyesQ rfl rfl rfl ?_ | refine s_gnoQ rfl rfl rfl rfl rfl ?_ | ((first | refine s_splitQ_d rfl rfl (fun h => ?_) (fun h => ?_) | refine s_splitQ_n rfl rfl (fun h => ?_) (fun h => ?_)) <;> (try (first | contradiction | (exfalso; omega) | (exfalso; exact hok ⟨by assumption, by omega, by omega⟩)))) | refine s_splitQ_nb rfl rfl (fun h => ?_) (fun h => ?_) | refine s_splitQ rfl rfl (fun h => ?_) (fun h => ?_))) | refine lQ_then ?_ | refine lQ_ends ?_ | (refine kE ?_; (first | refine e_then_r ?_ | refine e_block_r ?_ | refine e_then_n ?_ | refine e_then_x ?_ | refine e_block_n ?_ | refine e_block_x ?_ | refine e_block_y rfl ?_)) | refine l_ends ?_)
    all_goals (refine kE ?_; refine s_leaveSF rfl rfl rfl fwA (fun w hw => ?_))
    all_goals (unfold scaled; rw [if_neg hok]; exact ⟨_, [], rfl, ⟨_, rfl, OInts.nil _⟩, hw.toFresh0⟩)
end Go.Proofs.YtakijgpoaeggnaaGreat
/-
  Contracts: the picture of a surface; is it opaque.
-/
set_option linter.unusedVariables false
namespace Go.Proofs.YtakijgpoaeggnaaGreat
open Go Sx
attribute [local irreducible] Exit.then Exit.inBlock bodyPost oriented scaled pictureOf rawPicture
theorem c_ifaded (i : DImg) (d : Value) (a : Int) (H : SPiece) (W : World) (hv : OInts 3 d i.data H) (hH : Holds W H) (hn : H.keys.Nodup) :
    SYieldsG Tryz.prog 186 #[vImg i d, .int .i64 a] H (fun u H' F => u = vImg i d ∧ OInts 3 d (fadedImg i a).data H' ∧ F = []) W := by
  have hml := mapFirst_length (fun p => fade p a) i.data
  have hlen := hv.len
  refine SYieldsG.mk (s_enterM Tryz.func186 rfl Tryz.ntmps186 rfl hH hn ?_)
  repeat' (first | exact rfl | (apply kO; (first | exact ov_pure rfl | (apply kOBin; (first | exact aBin)) | (apply kOCall; (first | (apply kCallF; (first | exact (ov_call rfl (fun w hw => c_ifade _ _ w)))) | (apply kCallB; (first | exact aBlt | exact (ov_lenR (fun w hw => (rrA hw)) rfl) | exact aLenR)))) | (apply kOLoad; (first | exact (ov_ldR0 (fun w hw => (rrA hw)) rfl rfl (by rw [hml]; omega) rfl) | exact aLdF | exact aLdR)) | exact ov_fieldAddr rfl | (apply kOIdx; (first | exact (ov_idxR (fun w hw => (rrA hw)) rfl rfl (by rw [hml]; omega)) | exact aIdx)) | exact aRest | exact aNew | exact (ov_field1 (ft := 31) rfl rfl rfl rfl))) | (refine kN ?_; (first | (refine kStore ?_; (first | (refine s_setI _ rfl rfl (by assumption) gpA (by rw [hml]; omega) (fun H' hu => ?_)) | refine s_store1 _ rfl rfl gpA rfl (by rfl) ?_ | refine s_storeS _ rfl rfl gpA rfl rfl (by rfl) ?_ | refine s_storeS _ rfl rfl gpA rfl (ones_img oiA) (by rfl) ?_)) | refine s_boxS rfl rfl (fun b hb => ?_) | refine s_allocS rfl (fun b hb => ?_) | refine s_box1 rfl rfl rfl (fun b hb => ?_) | refine s_alloc1 rfl rfl (fun b hb => ?_) | refine s_buildSlice0 rfl (fun b hb => ?_) | refine s_buildSlice rfl rfl rfl rfl rfl (fun b hb => ?_) | apply s_step)) | (refine kG ?_; (first | refine s_gyes rfl rfl rfl ?_ | refine s_gno rfl rfl rfl rfl rfl ?_ | ((first | refine s_split_d rfl rfl (fun h => ?_) (fun h => ?_) | refine s_split_n rfl rfl (fun h => ?_) (fun h => ?_)) <;> (try (first | contradiction | (exfalso; omega)))) | refine s_split_nb rfl rfl (fun h => ?_) (fun h => ?_) | refine s_split rfl rfl (fun h => ?_) (fun h => ?_))) | (refine kS ?_; (first | refine h_exec rfl ?_ | refine h_take_nil rfl rfl rfl ?_ | refine h_take_pick rfl rfl rfl ?_ | refine h_nil ?_ | refine h_alt ?_ ?_ | apply h_take)) | (refine kBack ?_; (first | refine h_back_last rfl ?_ | refine h_backN rfl subA ?_)) | refine l_then ?_ | (refine kC ?_; (first | (refine kReg 4 ?_; refine c_regionSN (SPlan.take 0 (SPlan.take 1 (SPlan.take 2 (SPlan.take 3 (SPlan.take 4 (SPlan.run 5 (SPlan.take 6 (SPlan.run 7 SPlan.done)))))))) (some 7) rfl rfl (by decide +kernel) ?_) | (refine kReg 4 ?_; refine c_regionSN (SPlan.take 0 (SPlan.take 1 (SPlan.take 2 (SPlan.take 3 (SPlan.take 4 (SPlan.run 5 (SPlan.take 6 (SPlan.run 7 SPlan.done)))))))) none rfl rfl (by decide +kernel) ?_) | (refine c_loopV (ι := Nat × SPiece) (fun j => j.1 ≤ i.data.length ∧ OInts 3 d (mapFirst (fun p => fade p a) i.data j.1) j.2) (fun j => [(10, .int .i64 (j.1 : Int))]) (fun j => [_, _, j.2]) (fun j => i.data.length - j.1) (0, _) ⟨by dsimp only; omega, by rw [mapFirst_zero]; exact hv⟩ rfl (fun _ => rfl) ⟨rfl, trivial⟩ (fun w hw => hw) (fun j hj => ?_); obtain ⟨hj1, hj2⟩ := hj) | refine c_seq ?_ | refine c_regionN rfl ?_ | refine c_ret ?_ | (refine kCond ?_; (first | refine c_cond_t rfl ?_ | refine c_cond_f rfl ?_ | ((first | refine c_cond_d rfl (fun h => ?_) (fun h => ?_) | refine c_cond_n rfl (fun h => ?_) (fun h => ?_)) <;> (try (first | contradiction | (exfalso; omega)))) | refine c_cond_nb rfl (fun h => ?_) (fun h => ?_) | refine c_cond rfl (fun h => ?_) (fun h => ?_))) | refine c_block ?_ | refine c_skip ?_ | refine c_exit ?_ | refine c_regionQN rfl rfl (by decide +kernel) ?_)) | apply s_stepQ | (refine kQG ?_; (first | refine s_gyesQ rfl rfl rfl ?_ | refine s_gnoQ rfl rfl rfl rfl rfl ?_ | ((first | refine s_splitQ_d rfl rfl (fun h => ?_) (fun h => ?_) | refine s_splitQ_n rfl rfl (fun h => ?_) (fun h => ?_)) <;> (try (first | contradiction | (exfalso; omega)))) | refine s_splitQ_nb rfl rfl (fun h => ?_) (fun h => ?_) | refine s_splitQ rfl rfl (fun h => ?_) (fun h => ?_))) | refine lQ_then ?_ | refine lQ_ends ?_ | (refine kE ?_; (first | refine e_then_r ?_ | refine e_block_r ?_ | refine e_then_n ?_ | refine e_then_x ?_ | refine e_block_n ?_ | refine e_block_x ?_ | refine e_block_y rfl ?_)) | refine l_ends ?_)
  · have hs := mapFirst_set (fun p => fade p a) i.data (j := j.1) (by omega)
    rw [Int.toNat_natCast, mapFirst_get _ _ (by omega), hs] at hu
    exact e_round (j.1 + 1, H') ⟨by dsimp only; omega, hu⟩ ⟨rfl, (by repeat' first | exact trivial | refine ⟨rfl, ?_⟩)⟩ (fun w hw => hw) (by dsimp only; omega)
  · rw [mapFirst_all _ _ (by omega)] at hj2
    refine s_leaveSF rfl rfl rfl fwA (fun w hw => ⟨_, _, _, rfl, ⟨rfl, hj2, rfl⟩, (hw.sub (L' := [_]) (by repeat' first | exact List.nil_sublist _ | exact List.Sublist.slnil | refine List.Sublist.cons_cons _ ?_ | refine List.Sublist.cons _ ?_)).lone⟩)
section
variable {n : Nat} {lo : SMut} {s : World} {ops : Array Oper} {Q : Exit → Act → World → Prop} {E : SEnv} {L : SHeap} {dd : Nat} {ty : TypeId} {pos : String} {after : Array Edge} {rest : List Oper}
theorem s_faded (k : Nat) (i : DImg) {d : Value} {a : Int} {H : SPiece} {args : List Operand} {ts : Array TypeId} (ha : svals E args = some [vImg i d, .int .i64 a]) (hv : OInts 3 d i.data H) (hL : getL L k = some H) (hd : Nat.blt dd n = true)
    (c : ∀ H', OInts 3 d (fadedImg i a).data H' → WPL Tryz.prog n lo s ops Q rest ((dd, vImg i d) :: E) ([] :: setL L k H')) :
    WPL Tryz.prog n lo s ops Q (⟨some dd, .call { callee := .value (.func 186), args := args.toArray, argTypes := ts }, ty, pos, after, none⟩ :: rest) E L :=
  s_callG k (fun u H' F => u = vImg i d ∧ OInts 3 d (fadedImg i a).data H' ∧ F = []) ha hL (fun w hw hh hn => c_ifaded i d a H w hv hh hn) hd (fun v' H' F hu => by obtain ⟨rfl, hu, rfl⟩ := hu; exact c H' hu)
end
theorem c_surfacePicture (s : DSurf) (d : Value) (W : World) (hok : s.ok) (hd : RInts W d s.buf.data) : SYieldsF Tryz.prog 176 #[vSurf s d] (fun u H => OImg u (pictureOf s) H) W := by
  have hp : pictureOf s = fadedImg (rawPicture s) s.Alpha := by unfold pictureOf; rw [if_pos hok]
  have hr1 : s.W ≠ 0 → rawPicture s = scaled (oriented s.buf s.Orient) s.W s.H := fun e => by unfold rawPicture; rw [if_pos e]
  have hr2 : ¬ s.W ≠ 0 → rawPicture s = oriented s.buf s.Orient := fun e => by unfold rawPicture; rw [if_neg e]
  (first | apply SYields.mk | apply SYieldsF.mk | skip); refine s_enter Tryz.func176 rfl Tryz.ntmps176 rfl ?_
  repeat' (first | exact rfl | (apply kO; (first | exact ov_pure rfl | (apply kOBin; (first | exact aBin)) | (apply kOCall; (first | (apply kCallB; (first | exact aBlt | exact aLenR)))) | (apply kOLoad; (first | exact aLdF | exact aLdR)) | exact ov_fieldAddr rfl | (apply kOIdx; (first | exact aIdx)) | exact aRest | exact aNew | exact (ov_field1 (ft := 31) rfl rfl rfl rfl))) | (refine kN ?_; (first | (refine kCall ?_; (first | (refine kWFunc ?_; (refine s_callF (fun u H => OImg u (oriented s.buf s.Orient) H) rfl (fun w hw => c_ioriented s.buf _ _ w (riA hw)) rfl (fun u H hu => ?_); obtain ⟨d', rfl, hu⟩ := hu; have f1 := hu.form; obtain ⟨_, _, rfl⟩ := f1)) | (refine kWFunc ?_; (refine s_callF (fun u H => OImg u (scaled (oriented s.buf s.Orient) s.W s.H) H) rfl (fun w hw => c_iscaled (oriented s.buf s.Orient) _ _ _ w (riA hw)) rfl (fun u H hu => ?_); obtain ⟨d', rfl, hu⟩ := hu; have f1 := hu.form; obtain ⟨_, _, rfl⟩ := f1)) | (refine kWFn 186 ?_; (refine s_faded _ (scaled (oriented s.buf s.Orient) s.W s.H) rfl (by assumption) gpA rfl (fun H' hu => ?_))) | (refine kWFn 186 ?_; (refine s_faded _ (oriented s.buf s.Orient) rfl (by assumption) gpA rfl (fun H' hu => ?_))) | apply s_step)) | (refine kStore ?_; (first | refine s_store1 _ rfl rfl gpA rfl (by rfl) ?_ | refine s_storeS _ rfl rfl gpA rfl rfl (by rfl) ?_ | refine s_storeS _ rfl rfl gpA rfl (ones_img oiA) (by rfl) ?_)) | refine s_boxS rfl rfl (fun b hb => ?_) | refine s_allocS rfl (fun b hb => ?_) | refine s_box1 rfl rfl rfl (fun b hb => ?_) | refine s_alloc1 rfl rfl (fun b hb => ?_) | refine s_buildSlice0 rfl (fun b hb => ?_) | refine s_buildSlice rfl rfl rfl rfl rfl (fun b hb => ?_) | apply s_step)) | (refine kG ?_; (first | refine s_gyes rfl rfl rfl ?_ | refine s_gno rfl rfl rfl rfl rfl ?_ | ((first | refine s_split_d rfl rfl (fun h => ?_) (fun h => ?_) | refine s_split_n rfl rfl (fun h => ?_) (fun h => ?_)) <;> (try (first | contradiction | (exfalso; omega)))) | refine s_split_nb rfl rfl (fun h => ?_) (fun h => ?_) | refine s_split rfl rfl (fun h => ?_) (fun h => ?_))) | refine l_then ?_ | (refine kC ?_; (first | refine c_seq ?_ | refine c_regionN rfl ?_ | refine c_ret ?_ | (refine kCond ?_; (first | refine c_cond_t rfl ?_ | refine c_cond_f rfl ?_ | ((first | refine c_cond_d rfl (fun h => ?_) (fun h => ?_) | refine c_cond_n rfl (fun h => ?_) (fun h => ?_)) <;> (try (first | contradiction | (exfalso; omega)))) | refine c_cond_nb rfl (fun h => ?_) (fun h => ?_) | refine c_cond rfl (fun h => ?_) (fun h => ?_))) | refine c_block ?_ | refine c_skip ?_ | refine c_exit ?_ | refine c_regionQN rfl rfl (by decide +kernel) ?_)) | apply s_stepQ | (refine kQG ?_; (first | refine s_gyesQ rfl rfl rfl ?_ | refine s_gnoQ rfl rfl rfl rfl rfl ?_ | ((first | refine s_splitQ_d rfl rfl (fun h => ?_) (fun h => ?_) | refine s_splitQ_n rfl rfl (fun h => ?_) (fun h => ?_)) <;> (try (first | contradiction | (exfalso; omega)))) | refine s_splitQ_nb rfl rfl (fun h => ?_) (fun h => ?_) | refine s_splitQ rfl rfl (fun h => ?_) (fun h => ?_))) | refine lQ_then ?_ | refine lQ_ends ?_ | (refine kE ?_; (first | refine e_then_r ?_ | refine e_block_r ?_ | refine e_then_n ?_ | refine e_then_x ?_ | refine e_block_n ?_ | refine e_block_x ?_ | refine e_block_y rfl ?_)) | refine l_ends ?_)
  all_goals (refine kE ?_; refine s_leaveSF rfl rfl rfl fwA (fun w hw => ?_))
  all_goals (rw [hp]; first | rw [hr1 (by assumption)] | rw [hr2 (by assumption)])
  all_goals exact ⟨_, _, rfl, ⟨_, rfl, hu⟩, hw.toFresh gpA⟩
theorem c_spictureOf (s : DSurf) (d : Value) (W : World) (hd : RInts W d s.buf.data) : SYieldsF Tryz.prog 119 #[vSurf s d] (fun u H => OImg u (pictureOf s) H) W := by
  by_cases hok : s.ok
  · have hp : pictureOf s = fadedImg (rawPicture s) s.Alpha := by unfold pictureOf; rw [if_pos hok]
    have hsz := hok.2.2.2.1
    unfold DSurf.sized at hsz
    have hr1 : s.W ≠ 0 → rawPicture s = scaled (oriented s.buf s.Orient) s.W s.H := fun e => by unfold rawPicture; rw [if_pos e]
    have hr2 : ¬ s.W ≠ 0 → rawPicture s = oriented s.buf s.Orient := fun e => by unfold rawPicture; rw [if_neg e]
    have hml := fun l => mapFirst_length (fun p => fade p s.Alpha) l
    (first | apply SYields.mk | apply SYieldsF.mk | skip); refine s_enter Tryz.func119 rfl Tryz.ntmps119 rfl ?_
    repeat' (first | exact rfl | (apply kO; (first | exact ov_pure rfl | (apply kOBin; (first | exact aBin)) | (apply kOCall; (first | (apply kCallF; (first | exact (ov_call rfl (fun w hw => c_ssurfaceOk s _ w (riA hw))) | exact (ov_call rfl (fun w hw => c_sfade _ _ w)))) | (apply kCallB; (first | exact aBlt | exact (ov_lenR (fun w hw => (rrA hw)) rfl) | exact aLenR)))) | (apply kOLoad; (first | exact (ov_ldR0 (fun w hw => (rrA hw)) rfl rfl (by rw [hml]; omega) rfl) | exact aLdF | exact aLdR)) | exact ov_fieldAddr rfl | (apply kOIdx; (first | exact (ov_idxR (fun w hw => (rrA hw)) rfl rfl (by rw [hml]; omega)) | exact aIdx)) | exact aRest | exact aNew | exact (ov_field1 (ft := 31) rfl rfl rfl rfl))) | (refine kN ?_; (first | (refine kCall ?_; (first | (refine kWFunc ?_; (refine s_callF (fun u H => OImg u (oriented s.buf s.Orient) H) rfl (fun w hw => c_soriented s.buf _ _ w (riA hw)) rfl (fun u H hu => ?_); obtain ⟨d', rfl, hu⟩ := hu; have f1 := hu.form; obtain ⟨_, _, rfl⟩ := f1; have hul := hu.len)) | (refine kWFunc ?_; (refine s_callF (fun u H => OImg u (scaled (oriented s.buf s.Orient) s.W s.H) H) rfl (fun w hw => c_sscaled (oriented s.buf s.Orient) _ _ _ w (riA hw)) rfl (fun u H hu => ?_); obtain ⟨d', rfl, hu⟩ := hu; have f1 := hu.form; obtain ⟨_, _, rfl⟩ := f1; have hul := hu.len)) | apply s_step)) | (refine kStore ?_; (first | (refine s_setI _ rfl rfl (by assumption) gpA (by rw [hml]; omega) (fun H' hu => ?_)) | refine s_store1 _ rfl rfl gpA rfl (by rfl) ?_ | refine s_storeS _ rfl rfl gpA rfl rfl (by rfl) ?_ | refine s_storeS _ rfl rfl gpA rfl (ones_img oiA) (by rfl) ?_)) | refine s_boxS rfl rfl (fun b hb => ?_) | refine s_allocS rfl (fun b hb => ?_) | refine s_box1 rfl rfl rfl (fun b hb => ?_) | refine s_alloc1 rfl rfl (fun b hb => ?_) | refine s_buildSlice0 rfl (fun b hb => ?_) | refine s_buildSlice rfl rfl rfl rfl rfl (fun b hb => ?_) | apply s_step)) | (refine kG ?_; (first | refine s_gyes rfl rfl rfl ?_ | refine s_gno rfl rfl rfl rfl rfl ?_ | ((first | refine s_split_d rfl rfl (fun h => ?_) (fun h => ?_) | refine s_split_n rfl rfl (fun h => ?_) (fun h => ?_)) <;> (try (first | contradiction | (exfalso; omega)))) | refine s_split_nb rfl rfl (fun h => ?_) (fun h => ?_) | refine s_split rfl rfl (fun h => ?_) (fun h => ?_))) | (refine kS ?_; (first | refine h_exec rfl ?_ | refine h_take_nil rfl rfl rfl ?_ | refine h_take_pick rfl rfl rfl ?_ | refine h_nil ?_ | refine h_alt ?_ ?_ | apply h_take)) | (refine kBack ?_; (first | refine h_back_last rfl ?_ | refine h_backN rfl subA ?_)) | refine l_then ?_ | (refine kC ?_; (first | (refine kReg 9 ?_; refine c_regionSN (SPlan.take 0 (SPlan.take 1 (SPlan.take 2 (SPlan.take 3 (SPlan.take 4 (SPlan.take 5 (SPlan.take 6 (SPlan.take 7 (SPlan.take 8 (SPlan.take 9 (SPlan.run 10 (SPlan.take 11 (SPlan.run 12 SPlan.done))))))))))))) (some 12) rfl rfl (by decide +kernel) ?_) | (refine kReg 9 ?_; refine c_regionSN (SPlan.take 0 (SPlan.take 1 (SPlan.take 2 (SPlan.take 3 (SPlan.take 4 (SPlan.take 5 (SPlan.take 6 (SPlan.take 7 (SPlan.take 8 (SPlan.take 9 (SPlan.run 10 (SPlan.take 11 (SPlan.run 12 SPlan.done))))))))))))) none rfl rfl (by decide +kernel) ?_) | (refine c_loopV (ι := Nat × SPiece) (fun j => j.1 ≤ (scaled (oriented s.buf s.Orient) s.W s.H).data.length ∧ OInts 3 _ (mapFirst (fun p => fade p s.Alpha) (scaled (oriented s.buf s.Orient) s.W s.H).data j.1) j.2) (fun j => [(4, .int .i64 (j.1 : Int))]) (fun j => [j.2, _, _, _, _]) (fun j => (scaled (oriented s.buf s.Orient) s.W s.H).data.length - j.1) (0, _) ⟨by dsimp only; omega, by rw [mapFirst_zero]; assumption⟩ rfl (fun _ => rfl) ⟨rfl, trivial⟩ (fun w hw => hw) (fun j hj => ?_); obtain ⟨hj1, hj2⟩ := hj) | (refine c_loopV (ι := Nat × SPiece) (fun j => j.1 ≤ (oriented s.buf s.Orient).data.length ∧ OInts 3 _ (mapFirst (fun p => fade p s.Alpha) (oriented s.buf s.Orient).data j.1) j.2) (fun j => [(4, .int .i64 (j.1 : Int))]) (fun j => [_, j.2, _, _]) (fun j => (oriented s.buf s.Orient).data.length - j.1) (0, _) ⟨by dsimp only; omega, by rw [mapFirst_zero]; assumption⟩ rfl (fun _ => rfl) ⟨rfl, trivial⟩ (fun w hw => hw) (fun j hj => ?_); obtain ⟨hj1, hj2⟩ := hj) | refine c_seq ?_ | refine c_regionN rfl ?_ | refine c_ret ?_ | (refine kCond ?_; (first | refine c_cond_t rfl ?_ | refine c_cond_f rfl ?_ | ((first | refine c_cond_d rfl (fun h => ?_) (fun h => ?_) | refine c_cond_n rfl (fun h => ?_) (fun h => ?_)) <;> (try (first | contradiction | (exfalso; omega)))) | refine c_cond_nb rfl (fun h => ?_) (fun h => ?_) | refine c_cond rfl (fun h => ?_) (fun h => ?_))) | refine c_block ?_ | refine c_skip ?_ | refine c_exit ?_ | refine c_regionQN rfl rfl (by decide +kernel) ?_)) | apply s_stepQ | (refine kQG ?_; (first | refine s_gyesQ rfl rfl rfl ?_ | refine s_gnoQ rfl rfl rfl rfl rfl ?_ | ((first | refine s_splitQ_d rfl rfl (fun h => ?_) (fun h => ?_) | refine s_splitQ_n rfl rfl (fun h => ?_) (fun h => ?_)) <;> (try (first | contradiction | (exfalso; omega)))) | refine s_splitQ_nb rfl rfl (fun h => ?_) (fun h => ?_) | refine s_splitQ rfl rfl (fun h => ?_) (fun h => ?_))) | refine lQ_then ?_ | refine lQ_ends ?_ | (refine kE ?_; (first | refine e_then_r ?_ | refine e_block_r ?_ | refine e_then_n ?_ | refine e_then_x ?_ | refine e_block_n ?_ | refine e_block_x ?_ | refine e_block_y rfl ?_)) | refine l_ends ?_)
    · have hs := mapFirst_set (fun p => fade p s.Alpha) (scaled (oriented s.buf s.Orient) s.W s.H).data (j := j.1) (by omega)
      rw [Int.toNat_natCast, mapFirst_get _ _ (by omega), hs] at hu
      exact e_round (j.1 + 1, H') ⟨by dsimp only; omega, hu⟩ ⟨rfl, (by repeat' first | exact trivial | refine ⟨rfl, ?_⟩)⟩ (fun w hw => hw) (by dsimp only; omega)
    · rw [mapFirst_all _ _ (by omega)] at hj2
      refine s_leaveSF rfl rfl rfl fwA (fun w hw => ⟨_, _, rfl, ?_, hw.toFresh (H := j.2) gpA⟩)
      rw [hp, hr1 (by omega)]
      exact ⟨_, rfl, hj2⟩
    · have hs := mapFirst_set (fun p => fade p s.Alpha) (oriented s.buf s.Orient).data (j := j.1) (by omega)
      rw [Int.toNat_natCast, mapFirst_get _ _ (by omega), hs] at hu
      exact e_round (j.1 + 1, H') ⟨by dsimp only; omega, hu⟩ ⟨rfl, (by repeat' first | exact trivial | refine ⟨rfl, ?_⟩)⟩ (fun w hw => hw) (by dsimp only; omega)
    · rw [mapFirst_all _ _ (by omega)] at hj2
      refine s_leaveSF rfl rfl rfl fwA (fun w hw => ⟨_, _, rfl, ?_, hw.toFresh (H := j.2) gpA⟩)
      rw [hp, hr2 (by omega)]
      exact ⟨_, rfl, hj2⟩
  · (first | apply SYields.mk | apply SYieldsF.mk | skip); refine s_enter Tryz.func119 rfl Tryz.ntmps119 rfl ?_
    repeat' (first | exact rfl | (apply kO; (first | exact ov_pure rfl | (apply kOBin; (first | exact aBin)) | (apply kOCall; (first | (apply kCallF; (first | exact (ov_call rfl (fun w hw => c_ssurfaceOk s _ w (riA hw))))) | (apply kCallB; (first | exact aBlt | exact aLenR)))) | (apply kOLoad; (first | exact aLdF | exact aLdR)) | exact ov_fieldAddr rfl | (apply kOIdx; (first | exact aIdx)) | exact aRest | exact aNew | exact (ov_field1 (ft := 31) rfl rfl rfl rfl))) | (refine kN ?_; (first | (refine kStore ?_; (first | refine s_store1 _ rfl rfl gpA rfl (by rfl) ?_ | refine s_storeS _ rfl rfl gpA rfl rfl (by rfl) ?_ | refine s_storeS _ rfl rfl gpA rfl (ones_img oiA) (by rfl) ?_)) | refine s_boxS rfl rfl (fun b hb => ?_) | refine s_allocS rfl (fun b hb => ?_) | refine s_box1 rfl rfl rfl (fun b hb => ?_) | refine s_alloc1 rfl rfl (fun b hb => ?_) | refine s_buildSlice0 rfl (fun b hb => ?_) | refine s_buildSlice rfl rfl rfl rfl rfl (fun b hb => ?_) | apply s_step)) | (refine kG ?_; (first | refine s_gyes rfl rfl rfl ?_ | refine s_gno rfl rfl rfl rfl rfl ?_ | ((first | refine s_split_d rfl rfl (fun h => ?_) (fun h => ?_) | refine s_split_n rfl rfl (fun h => ?_) (fun h => ?_)) <;> (try (first | contradiction | (exfalso; omega)))) | refine s_split_nb rfl rfl (fun h => ?_) (fun h => ?_) | refine s_split rfl rfl (fun h => ?_) (fun h => ?_))) | refine l_then ?_ | (refine kC ?_; (first | refine c_seq ?_ | refine c_regionN rfl ?_ | refine c_ret ?_ | (refine kCond ?_; (first | refine c_cond_t rfl ?_ | refine c_cond_f rfl ?_ | ((first | refine c_cond_d rfl (fun h => ?_) (fun h => ?_) | refine c_cond_n rfl (fun h => ?_) (fun h => ?_)) <;> (try (first | contradiction | (exfalso; omega)))) | refine c_cond_nb rfl (fun h => ?_) (fun h => ?_) | refine c_cond rfl (fun h => ?_) (fun h => ?_))) | refine c_block ?_ | refine c_skip ?_ | refine c_exit ?_ | refine c_regionQN rfl rfl (by decide +kernel) ?_)) | apply s_stepQ | (refine kQG ?_; (first | refine s_gyesQ rfl rfl rfl ?_ | refine s_gnoQ rfl rfl rfl rfl rfl ?_ | ((first | refine s_splitQ_d rfl rfl (fun h => ?_) (fun h => ?_) | refine s_splitQ_n rfl rfl (fun h => ?_) (fun h => ?_)) <;> (try (first | contradiction | (exfalso; omega)))) | refine s_splitQ_nb rfl rfl (fun h => ?_) (fun h => ?_) | refine s_splitQ rfl rfl (fun h => ?_) (fun h => ?_))) | refine lQ_then ?_ | refine lQ_ends ?_ | (refine kE ?_; (first | refine e_then_r ?_ | refine e_block_r ?_ | refine e_then_n ?_ | refine e_then_x ?_ | refine e_block_n ?_ | refine e_block_x ?_ | refine e_block_y rfl ?_)) | refine l_ends ?_)
    all_goals (refine kE ?_; refine s_leaveSF rfl rfl rfl fwA (fun w hw => ?_))
    all_goals (unfold pictureOf; rw [if_neg hok]; exact ⟨_, [], rfl, ⟨_, rfl, OInts.nil _⟩, hw.toFresh0⟩)
end Go.Proofs.YtakijgpoaeggnaaGreat
/-
  Contracts: a scene painted by the program.
-/
set_option linter.unusedVariables false
namespace Go.Proofs.YtakijgpoaeggnaaGreat
open Go Sx
attribute [local irreducible] Exit.then Exit.inBlock bodyPost oriented scaled pictureOf rawPicture
theorem apart_new {s w : World} {L : SHeap} {i : Nat} {H : SPiece} {v : Value} {l : List Int} (hw : SSt [] s L w) (hL : getL L i = some H) (hv : RInts s v l) (hne : 0 < l.length) : Apart H.keys v := by
  unfold Apart
  intro hm
  obtain ⟨⟨k, o⟩, h1, h2⟩ := List.mem_map.1 hm
  have h3 := hv.cell 0 hne 0 _ rfl
  have h4 := World.block_lt_of_cell? s _ h3
  have h5 := (hw.blocks k o (getL_flat hL h1)).1
  simp only [List.not_mem_nil, false_or] at h5
  dsimp only at h2 h4
  omega
theorem pic_len {s : DSurf} (h : s.ok) : (pictureOf s).data.length = ((surfSize s).1 * (surfSize s).2).toNat := by
  have h1 := surfSize_pic h
  rw [(pictureOf_ok h).lenN, h1.1, h1.2]
def rowsG (r : DRect) (j : Nat) : Grid := fun y x => r.holds y x && decide ((y : Int) < r.Y + j)
theorem rowsG_zero (r : DRect) : (rowsG r 0).eqv Grid.none := fun y x hy hx => by
  unfold rowsG DRect.holds Grid.none
  rw [← Bool.decide_and]; exact decide_eq_false (fun hh => by have h1 := hh.1.2; have h2 := hh.2; omega)
theorem rowsG_next {r : DRect} (h : r.ok) (h0 : 0 ≤ r.X ∧ 0 ≤ r.Y) {j : Nat} (hj : (j : Int) < r.H) : (Grid.row (rowsG r j) (r.Y + j).toNat (fun i => decide (r.X.toNat ≤ i ∧ i < r.X.toNat + r.W.toNat))).eqv (rowsG r (j + 1)) := fun y x hy hx => by
  have h' := h
  unfold DRect.ok at h'
  unfold Grid.row rowsG DRect.holds
  by_cases e : y = (r.Y + j).toNat
  · subst e
    rw [if_pos rfl, ← Bool.decide_and]
    exact decide_eq_decide.2 ⟨fun hh => ⟨⟨h, by omega⟩, by push_cast; omega⟩, fun hh => by have h1 := hh.1.2; omega⟩
  · rw [if_neg e, ← Bool.decide_and, ← Bool.decide_and]
    exact decide_eq_decide.2 ⟨fun hh => ⟨hh.1, by push_cast; omega⟩, fun hh => ⟨hh.1, by have h1 := hh.2; have h2 := hh.1.2; push_cast at h1; omega⟩⟩
theorem rowsG_all {r : DRect} {j : Nat} (hj : r.H ≤ (j : Int)) : (rowsG r j).eqv (rectG r) := fun y x hy hx => by
  unfold rowsG rectG DRect.holds
  rw [← Bool.decide_and]
  exact decide_eq_decide.2 ⟨fun hh => hh.1, fun hh => ⟨hh, by have := hh.2; omega⟩⟩
theorem inter_screen_in (r : DRect) : 0 ≤ (r.inter DRect.screen).X ∧ 0 ≤ (r.inter DRect.screen).Y ∧ 0 ≤ (r.inter DRect.screen).W ∧ 0 ≤ (r.inter DRect.screen).H ∧ (r.inter DRect.screen).X + (r.inter DRect.screen).W ≤ 16 ∧ (r.inter DRect.screen).Y + (r.inter DRect.screen).H ≤ 16 := by
  by_cases h : r.ok
  · unfold DRect.inter
    rw [if_pos ⟨h, screen_ok⟩]
    unfold DRect.ok at h
    split
    · unfold DRect.zero; dsimp only; omega
    · rename_i hh; unfold DRect.screen at hh ⊢; dsimp only at hh ⊢; omega
  · rw [inter_not (.inl h)]; unfold DRect.zero; dsimp only; omega
theorem span_val {X W : Int} (h1 : 0 ≤ X) (h2 : 0 ≤ W) (h3 : X + W ≤ 16) : (((2 ^ W.toNat : Nat) : Int) - 1) * 2 ^ X.toNat = (Sx.bits (fun i => decide (X.toNat ≤ i ∧ i < X.toNat + W.toNat)) 16 : Nat) := by
  rw [← bits_span (X := X.toNat) (W := W.toNat) (n := 16) (by omega)]
  have : 1 ≤ 2 ^ W.toNat := Nat.pow_pos (by omega)
  push_cast [this]
  rfl
section
variable {P : Program} {n : Nat} {lo : SMut} {s : World} {E : SEnv} {L : SHeap} {d : Option Tmp} {ty : TypeId} {pos : String} {after : Array Edge} {g0 : Option (Nat × Bool)} {x y : Operand} {xt yt : TypeId}
theorem ov_span {kj : IntKind} {X W : Int} (hx : sval E x = some (.int .i64 (((2 ^ W.toNat : Nat) : Int) - 1))) (hy : sval E y = some (.int kj X)) (h1 : 0 ≤ X) (h2 : 0 ≤ W) (h3 : X + W ≤ 16) :
    SOpV P n lo s E L ⟨d, .binOp .shl xt x y yt, ty, pos, after, g0⟩ (.int .i64 (Sx.bits (fun i => decide (X.toNat ≤ i ∧ i < X.toNat + W.toNat)) 16 : Nat)) := by
  have hb := bits16 (fun i => decide (X.toNat ≤ i ∧ i < X.toNat + W.toNat))
  rw [← span_val h1 h2 h3] at hb ⊢
  exact ov_shl hx hy (by omega) (by omega)
end
theorem pow_bd {j : Int} (h : 0 ≤ j ∧ j ≤ 16) : 1 ≤ ((2 ^ j.toNat : Nat) : Int) ∧ ((2 ^ j.toNat : Nat) : Int) ≤ 65536 := by
  have h1 : 2 ^ j.toNat ≤ 2 ^ 16 := Nat.pow_le_pow_right (by omega) (by omega)
  have h2 : 0 < 2 ^ j.toNat := Nat.pow_pos (by omega)
  have hm : ∀ m : Nat, 0 < m → m ≤ 2 ^ 16 → 1 ≤ (m : Int) ∧ (m : Int) ≤ 65536 := fun m a b => by omega
  exact hm _ h2 h1
theorem mapTo_pixD {f : Int → Int → Int} (h : ∀ x y, pixP (f x y)) (w : Int) (n q : Nat) : pixP ((mapTo f w n).getD q 0) := by
  by_cases e : q < n
  · rw [mapTo_get f w e]; exact h _ _
  · rw [List.getD_eq_getElem?_getD, List.getElem?_eq_none (by rw [mapTo_length]; omega)]; unfold pixP; simp
theorem c_gridOf (r0 : DRect) (w : World) : SYields Tryz.prog 102 #[vRect r0] (gval (rectG r0)) w := by
  rw [← gval_congr (inter_screen (r := r0))]
  have hin := inter_screen_in r0
  have hok : (r0.inter DRect.screen).ok := by unfold DRect.ok; omega
  (first | apply SYields.mk | apply SYieldsF.mk | skip); refine s_enter Tryz.func102 rfl Tryz.ntmps102 rfl ?_
  repeat' (first | exact rfl | (apply kO; (first | exact ov_pure rfl | (apply kOBin; (first | exact aBin | exact (ov_sub rfl rfl (by have := pow_bd (j := (r0.inter DRect.screen).W) (by omega); omega)))) | (apply kOCall; (first | (apply kCallF; (first | exact (ov_call rfl (fun w hw => c_iintersect r0 DRect.screen w)))) | (apply kCallB; (first | exact aBlt | exact aLenR)))) | (apply kOLoad; (first | exact aLdF | exact aLdR)) | exact ov_fieldAddr rfl | (apply kOIdx; (first | exact (ov_indexAddrA rfl rfl (by omega)) | exact aIdx)) | exact aRest | exact (ov_bit rfl rfl (by omega)) | exact (ov_span rfl rfl (by omega) (by omega) (by omega)) | exact (ov_buildA0) | exact aNew | exact (ov_field1 (ft := 31) rfl rfl rfl rfl))) | (refine kN ?_; (first | (refine kStore ?_; (first | (refine s_setR _ rfl rfl gpA rfl (by simp [gl]; omega) ?_) | refine s_store1 _ rfl rfl gpA rfl (by rfl) ?_ | refine s_storeS _ rfl rfl gpA rfl rfl (by rfl) ?_ | refine s_storeS _ rfl rfl gpA rfl (ones_img oiA) (by rfl) ?_)) | refine s_boxS rfl rfl (fun b hb => ?_) | refine s_allocS rfl (fun b hb => ?_) | refine s_box1 rfl rfl rfl (fun b hb => ?_) | refine s_alloc1 rfl rfl (fun b hb => ?_) | refine s_buildSlice0 rfl (fun b hb => ?_) | refine s_buildSlice rfl rfl rfl rfl rfl (fun b hb => ?_) | apply s_step)) | (refine kG ?_; (first | refine s_gyes rfl rfl rfl ?_ | refine s_gno rfl rfl rfl rfl rfl ?_ | ((first | refine s_split_d rfl rfl (fun h => ?_) (fun h => ?_) | refine s_split_n rfl rfl (fun h => ?_) (fun h => ?_)) <;> (try (first | contradiction | (exfalso; omega)))) | refine s_split_nb rfl rfl (fun h => ?_) (fun h => ?_) | refine s_split rfl rfl (fun h => ?_) (fun h => ?_))) | (refine kS ?_; (first | refine h_exec rfl ?_ | refine h_take_nil rfl rfl rfl ?_ | refine h_take_pick rfl rfl rfl ?_ | refine h_nil ?_ | refine h_alt ?_ ?_ | apply h_take)) | (refine kBack ?_; (first | refine h_back_last rfl ?_ | refine h_backN rfl subA ?_)) | refine l_then ?_ | (refine kC ?_; (first | (refine kReg 6 ?_; refine c_regionSN (SPlan.take 0 (SPlan.take 1 (SPlan.take 2 (SPlan.take 3 (SPlan.take 4 (SPlan.take 5 (SPlan.take 6 (SPlan.take 7 (SPlan.take 8 (SPlan.run 9 SPlan.done)))))))))) (some 9) rfl rfl (by decide +kernel) ?_) | (refine kReg 6 ?_; refine c_regionSN (SPlan.take 0 (SPlan.take 1 (SPlan.take 2 (SPlan.take 3 (SPlan.take 4 (SPlan.take 5 (SPlan.take 6 (SPlan.take 7 (SPlan.take 8 (SPlan.run 9 SPlan.done)))))))))) none rfl rfl (by decide +kernel) ?_) | (refine c_loopV (ι := Nat) (fun j => (j : Int) ≤ (r0.inter DRect.screen).H) (fun j => [(4, .int .i64 ((r0.inter DRect.screen).Y + j))]) (fun j => [[(_, srow (gl (rowsG (r0.inter DRect.screen) j)) _)], _, _]) (fun j => (r0.inter DRect.screen).H.toNat - j) 0 (by omega) rfl (fun _ => rfl) ⟨slook_to rfl (vint_to (by simp)), trivial⟩ (fun w hw => by rw [gl_congr (rowsG_zero _)]; exact hw) (fun j hj => ?_)) | refine c_seq ?_ | refine c_regionN rfl ?_ | refine c_ret ?_ | (refine kCond ?_; (first | refine c_cond_t rfl ?_ | refine c_cond_f rfl ?_ | ((first | refine c_cond_d rfl (fun h => ?_) (fun h => ?_) | refine c_cond_n rfl (fun h => ?_) (fun h => ?_)) <;> (try (first | contradiction | (exfalso; omega)))) | refine c_cond_nb rfl (fun h => ?_) (fun h => ?_) | refine c_cond rfl (fun h => ?_) (fun h => ?_))) | refine c_block ?_ | refine c_skip ?_ | refine c_exit ?_ | refine c_regionQN rfl rfl (by decide +kernel) ?_)) | apply s_stepQ | (refine kQG ?_; (first | refine s_gyesQ rfl rfl rfl ?_ | refine s_gnoQ rfl rfl rfl rfl rfl ?_ | ((first | refine s_splitQ_d rfl rfl (fun h => ?_) (fun h => ?_) | refine s_splitQ_n rfl rfl (fun h => ?_) (fun h => ?_)) <;> (try (first | contradiction | (exfalso; omega)))) | refine s_splitQ_nb rfl rfl (fun h => ?_) (fun h => ?_) | refine s_splitQ rfl rfl (fun h => ?_) (fun h => ?_))) | refine lQ_then ?_ | refine lQ_ends ?_ | (refine kE ?_; (first | refine e_then_r ?_ | refine e_block_r ?_ | refine e_then_n ?_ | refine e_then_x ?_ | refine e_block_n ?_ | refine e_block_x ?_ | refine e_block_y rfl ?_)) | refine l_ends ?_)
  · refine e_round (j + 1) (by push_cast; omega) ⟨slook_to rfl (vint_to (by push_cast; omega)), (by repeat' first | exact trivial | refine ⟨rfl, ?_⟩)⟩ (fun w hw => ?_) (by omega)
    have e : (gl (rowsG (r0.inter DRect.screen) j)).set (0 + ((r0.inter DRect.screen).Y + j).toNat * 1) (.int .i64 (Sx.bits (fun i => decide ((r0.inter DRect.screen).X.toNat ≤ i ∧ i < (r0.inter DRect.screen).X.toNat + (r0.inter DRect.screen).W.toNat)) 16 : Nat)) = gl (rowsG (r0.inter DRect.screen) (j + 1)) := by
      rw [Nat.zero_add, Nat.mul_one, gl_set _ (by omega), gl_congr (rowsG_next hok ⟨by omega, by omega⟩ (by omega))]
    rw [← e]; exact hw
  · refine s_leaveSF rfl rfl rfl fwA (fun w hw => ⟨?_, hw.below⟩)
    show Ending.returned (gval (rowsG (r0.inter DRect.screen) j)) = _
    rw [gval_congr (rowsG_all (by omega))]
set_option maxHeartbeats 2000000 in
theorem c_paintOne (pw ph : Int) (old : Int → Int → Int) (v : Value) (q : DSurf) (ds : Value) (g : Grid) (H : SPiece) (W : World) (hpw : 1 ≤ pw ∧ pw ≤ 16) (hph : 1 ≤ ph ∧ ph ≤ 16) (hq : q.ok) (hpx : ∀ a c, pixP (old a c)) (hv : OInts 3 v (mapTo old pw (pw * ph).toNat) H) (hd : RInts W ds q.buf.data) (hap : Apart H.keys ds) (hH : Holds W H) (hn : H.keys.Nodup) :
    SYieldsG Tryz.prog 156 #[.agg #[.int .i64 pw, .int .i64 ph, v], vSurf q ds, gval g] H (fun u H' F => u = .int .i64 (hitN q g pw ph ((surfSize q).1 * (surfSize q).2).toNat) ∧ OInts 3 v (mapTo (oneTo q g old ((surfSize q).1 * (surfSize q).2).toNat) pw (pw * ph).toNat) H' ∧ F = []) W := by
  have hpl := pic_len hq
  have hsz := surfSize_bd hq
  have hps := surfSize_pic hq
  have hwh := side_mul (w := pw) (h := ph) ⟨hpw.1, hpw.2, hph.1, hph.2⟩
  have hN := side_mul (w := (surfSize q).1) (h := (surfSize q).2) ⟨hsz.1.1, hsz.1.2, hsz.2.1, hsz.2.2⟩
  have hq' := hq
  unfold DSurf.ok at hq'
  have hm := fun k => mod_row (w := (pictureOf q).W) (q := k) (by rw [hps.1]; exact hsz.1.1)
  have hdv := fun (k : Nat) (hk : k < ((surfSize q).1 * (surfSize q).2).toNat) => div_lt (w := (surfSize q).1) (h := (surfSize q).2) (q := k) hsz.1.1 hk
  have hhb := fun k => hitN_bd q g pw ph k
  have hdv' := fun (k : Nat) (hk : k < ((surfSize q).1 * (surfSize q).2).toNat) => (show (k : Int) / (pictureOf q).W < (surfSize q).2 by rw [hps.1]; exact hdv k hk)
  have hpok := pictureOf_ok hq
  have pic_pix := fun k => hpok.pix k
  have one_pix := fun (k : Nat) x y => oneTo_pix hq g k (hpx x y)
  refine SYieldsG.mk (s_enterM Tryz.func156 rfl Tryz.ntmps156 rfl hH hn ?_)
  repeat' (first | exact rfl | (apply kO; (first | exact ov_pure rfl | (apply kOBin; (first | exact aBin | exact (ov_andBit rfl rfl (by omega)) | exact (ov_add rfl rfl (by have := hm k.1; have := hdv' k.1 (by omega); omega)) | exact (ov_add rfl rfl (by have := hhb k.1; omega)) | exact (ov_mul rfl rfl (by have := mul_bd (a := q.Y + (k.1 : Int) / (pictureOf q).W) (b := pw) (A := 16) (B := 16) (by omega) (by omega); omega)) | exact (ov_add rfl rfl (by have := mul_bd (a := q.Y + (k.1 : Int) / (pictureOf q).W) (b := pw) (A := 16) (B := 16) (by omega) (by omega); omega)))) | (apply kOCall; (first | (apply kCallF; (first | exact (ov_call rfl (fun w hw => c_within _ _ _ w)) | exact (ov_call rfl (fun w hw => c_iover _ _ w (pic_pix _) (mapTo_pixD (one_pix k.1) _ _ _))))) | (apply kCallB; (first | exact aBlt | exact aLenR)))) | (apply kOLoad; (first | exact (ov_ldG g rfl rfl gpA (by omega)) | exact (ov_ldR0 (fun w hw => (rrA hw)) rfl rfl (by rw [mapTo_length]; have := place_lt (w := pw) (h := ph) (x := q.X + (k.1 : Int) % (pictureOf q).W) (y := q.Y + (k.1 : Int) / (pictureOf q).W) (by omega) (by omega); omega) rfl) | exact aLdF | exact aLdR)) | exact ov_fieldAddr rfl | (apply kOIdx; (first | exact (ov_indexAddrA rfl rfl (by omega)) | exact (ov_idxR (fun w hw => (rrA hw)) rfl rfl (by rw [mapTo_length]; have := place_lt (w := pw) (h := ph) (x := q.X + (k.1 : Int) % (pictureOf q).W) (y := q.Y + (k.1 : Int) / (pictureOf q).W) (by omega) (by omega); omega)) | exact aIdx)) | exact aRest | exact (ov_bit rfl rfl (by omega)) | exact aNew | exact (ov_field1 (ft := 31) rfl rfl rfl rfl))) | (refine kN ?_; (first | (refine kCall ?_; (first | (refine kWFn 176 ?_; (refine s_callF (fun u H => OImg u (pictureOf q) H) rfl (fun w hw => c_surfacePicture q _ w hq (riA hw)) rfl (fun u H1 hu => ?_); obtain ⟨d', rfl, hu⟩ := hu; have f1 := hu.form; obtain ⟨_, _, rfl⟩ := f1)) | apply s_step)) | (refine kStore ?_; (first | (refine s_setI _ rfl rfl (by assumption) gpA (by rw [mapTo_length]; have := place_lt (w := pw) (h := ph) (x := q.X + (k.1 : Int) % (pictureOf q).W) (y := q.Y + (k.1 : Int) / (pictureOf q).W) (by omega) (by omega); omega) (fun H' hst => ?_)) | refine s_store1 _ rfl rfl gpA rfl (by rfl) ?_ | refine s_storeS _ rfl rfl gpA rfl rfl (by rfl) ?_ | refine s_storeS _ rfl rfl gpA rfl (ones_img oiA) (by rfl) ?_)) | refine s_boxS rfl rfl (fun b hb => ?_) | refine s_allocS rfl (fun b hb => ?_) | refine s_box1 rfl rfl rfl (fun b hb => ?_) | refine s_alloc1 rfl rfl (fun b hb => ?_) | refine s_buildSlice0 rfl (fun b hb => ?_) | refine s_buildSlice rfl rfl rfl rfl rfl (fun b hb => ?_) | apply s_step)) | (refine kG ?_; (first | refine s_gyes rfl rfl rfl ?_ | refine s_gno rfl rfl rfl rfl rfl ?_ | ((first | refine s_split_d rfl rfl (fun h => ?_) (fun h => ?_) | refine s_split_n rfl rfl (fun h => ?_) (fun h => ?_)) <;> (try (first | contradiction | (exfalso; omega)))) | refine s_split_nb rfl rfl (fun h => ?_) (fun h => ?_) | refine s_split rfl rfl (fun h => ?_) (fun h => ?_))) | (refine kS ?_; (first | refine h_exec rfl ?_ | refine h_take_nil rfl rfl rfl ?_ | refine h_take_pick rfl rfl rfl ?_ | refine h_nil ?_ | refine h_alt ?_ ?_ | apply h_take)) | (refine kBack ?_; (first | refine h_back_last rfl ?_ | refine h_backN rfl subA ?_)) | refine l_then ?_ | (refine kC ?_; (first | (refine kReg 8 ?_; refine c_regionSN (SPlan.take 0 (SPlan.take 1 (SPlan.take 2 (SPlan.take 3 (SPlan.take 4 (SPlan.take 5 (SPlan.take 6 (SPlan.take 7 (SPlan.take 8 (SPlan.take 9 (SPlan.take 10 (SPlan.take 11 (SPlan.take 12 (SPlan.take 13 (SPlan.take 14 (SPlan.take 15 (SPlan.take 16 (SPlan.take 17 (SPlan.take 18 (SPlan.run 19 (SPlan.take 20 (SPlan.run 21 SPlan.done)))))))))))))))))))))) (some 21) rfl rfl (by decide +kernel) ?_) | (refine kReg 8 ?_; refine c_regionSN (SPlan.take 0 (SPlan.take 1 (SPlan.take 2 (SPlan.take 3 (SPlan.take 4 (SPlan.take 5 (SPlan.take 6 (SPlan.take 7 (SPlan.take 8 (SPlan.take 9 (SPlan.take 10 (SPlan.take 11 (SPlan.take 12 (SPlan.take 13 (SPlan.take 14 (SPlan.take 15 (SPlan.take 16 (SPlan.take 17 (SPlan.take 18 (SPlan.run 19 (SPlan.take 20 (SPlan.run 21 SPlan.done)))))))))))))))))))))) none rfl rfl (by decide +kernel) ?_) | (refine c_loopV (ι := Nat × SPiece) (fun k => k.1 ≤ ((surfSize q).1 * (surfSize q).2).toNat ∧ OInts 3 v (mapTo (oneTo q g old k.1) pw (pw * ph).toNat) k.2) (fun k => [(8, .int .i64 (hitN q g pw ph k.1)), (18, .int .i64 (k.1 : Int))]) (fun k => [_, _, _, _, _, k.2]) (fun k => ((surfSize q).1 * (surfSize q).2).toNat - k.1) (0, _) ⟨by dsimp only; omega, by rw [show oneTo q g old 0 = old by funext x y; exact oneTo_zero hq g old x y]; exact hv⟩ rfl (fun _ => rfl) ⟨rfl, rfl, trivial⟩ (fun w hw => hw) (fun k hk => ?_); obtain ⟨hk1, hk2⟩ := hk) | refine c_seq ?_ | refine c_regionN rfl ?_ | refine c_ret ?_ | (refine kCond ?_; (first | refine c_cond_t rfl ?_ | refine c_cond_f rfl ?_ | ((first | refine c_cond_d rfl (fun h => ?_) (fun h => ?_) | refine c_cond_n rfl (fun h => ?_) (fun h => ?_)) <;> (try (first | contradiction | (exfalso; omega)))) | refine c_cond_nb rfl (fun h => ?_) (fun h => ?_) | refine c_cond rfl (fun h => ?_) (fun h => ?_))) | refine c_block ?_ | refine c_skip ?_ | refine c_exit ?_ | refine c_regionQN rfl rfl (by decide +kernel) ?_)) | apply s_stepQ | (refine kQG ?_; (first | refine s_gyesQ rfl rfl rfl ?_ | refine s_gnoQ rfl rfl rfl rfl rfl ?_ | ((first | refine s_splitQ_d rfl rfl (fun h => ?_) (fun h => ?_) | refine s_splitQ_n rfl rfl (fun h => ?_) (fun h => ?_)) <;> (try (first | contradiction | (exfalso; omega)))) | refine s_splitQ_nb rfl rfl (fun h => ?_) (fun h => ?_) | refine s_splitQ rfl rfl (fun h => ?_) (fun h => ?_))) | refine lQ_then ?_ | refine lQ_ends ?_ | (refine kE ?_; (first | refine e_then_r ?_ | refine e_block_r ?_ | refine e_then_n ?_ | refine e_then_x ?_ | refine e_block_n ?_ | refine e_block_x ?_ | refine e_block_y rfl ?_)) | refine l_ends ?_)
  · rename_i h1 h2 h3
    have hkN : k.1 < ((surfSize q).1 * (surfSize q).2).toNat := by omega
    have ekx : q.X + (k.1 : Int) % (pictureOf q).W = kx q k.1 := by unfold kx; rw [hps.1]
    have eky : q.Y + (k.1 : Int) / (pictureOf q).W = ky q k.1 := by unfold ky; rw [hps.1]
    rw [ekx] at h2
    rw [eky] at h3
    rw [ekx, eky] at h hst
    have hmi := one_hit hq (g := g) (old := old) (w := pw) (h := ph) hkN h2 h3 (bit_ne.1 h)
    rw [Int.toNat_natCast, hmi.1] at hst
    exact e_round (k.1 + 1, H') ⟨by dsimp only; omega, hst⟩ ⟨slook_to rfl (vint_to hmi.2), slook_to rfl (vint_to (by push_cast; rfl)), (by repeat' first | exact trivial | refine ⟨rfl, ?_⟩)⟩ (fun w hw => hw) (by dsimp only; omega)
  · rename_i h1 h2 h3
    have hkN : k.1 < ((surfSize q).1 * (surfSize q).2).toNat := by omega
    have ekx : q.X + (k.1 : Int) % (pictureOf q).W = kx q k.1 := by unfold kx; rw [hps.1]
    have eky : q.Y + (k.1 : Int) / (pictureOf q).W = ky q k.1 := by unfold ky; rw [hps.1]
    rw [ekx, eky] at h
    have hmi := one_miss hq (g := g) (old := old) (w := pw) (h := ph) hpw.1 hkN (fun hh => h (bit_ne.2 hh.2))
    rw [← hmi.1] at hk2
    exact e_round (k.1 + 1, k.2) ⟨by dsimp only; omega, hk2⟩ ⟨slook_to rfl (vint_to hmi.2.symm), slook_to rfl (vint_to (by push_cast; rfl)), (by repeat' first | exact trivial | refine ⟨rfl, ?_⟩)⟩ (fun w hw => hw) (by dsimp only; omega)
  · rename_i h1 h2
    have hkN : k.1 < ((surfSize q).1 * (surfSize q).2).toNat := by omega
    have ekx : q.X + (k.1 : Int) % (pictureOf q).W = kx q k.1 := by unfold kx; rw [hps.1]
    have eky : q.Y + (k.1 : Int) / (pictureOf q).W = ky q k.1 := by unfold ky; rw [hps.1]
    rw [eky] at h
    have hmi := one_miss hq (g := g) (old := old) (w := pw) (h := ph) hpw.1 hkN (fun hh => h hh.1.2)
    rw [← hmi.1] at hk2
    exact e_round (k.1 + 1, k.2) ⟨by dsimp only; omega, hk2⟩ ⟨slook_to rfl (vint_to hmi.2.symm), slook_to rfl (vint_to (by push_cast; rfl)), (by repeat' first | exact trivial | refine ⟨rfl, ?_⟩)⟩ (fun w hw => hw) (by dsimp only; omega)
  · rename_i h1
    have hkN : k.1 < ((surfSize q).1 * (surfSize q).2).toNat := by omega
    have ekx : q.X + (k.1 : Int) % (pictureOf q).W = kx q k.1 := by unfold kx; rw [hps.1]
    have eky : q.Y + (k.1 : Int) / (pictureOf q).W = ky q k.1 := by unfold ky; rw [hps.1]
    rw [ekx] at h
    have hmi := one_miss hq (g := g) (old := old) (w := pw) (h := ph) hpw.1 hkN (fun hh => h hh.1.1)
    rw [← hmi.1] at hk2
    exact e_round (k.1 + 1, k.2) ⟨by dsimp only; omega, hk2⟩ ⟨slook_to rfl (vint_to hmi.2.symm), slook_to rfl (vint_to (by push_cast; rfl)), (by repeat' first | exact trivial | refine ⟨rfl, ?_⟩)⟩ (fun w hw => hw) (by dsimp only; omega)
  · have hkN : k.1 = ((surfSize q).1 * (surfSize q).2).toNat := by omega
    rw [hkN] at hk2
    exact s_leave1 rfl (slook_to rfl (vint_to (by rw [hkN]))) (fun w hw => ⟨_, k.2, [], rfl, ⟨rfl, hk2, rfl⟩, (hw.sub (L' := [_]) (selO_sub [false, false, false, false, false, true] _ _ rfl)).lone⟩)
end Go.Proofs.YtakijgpoaeggnaaGreat
/-
  Contracts: the program's grids joined; regions as grids; the canonical form.
-/
set_option linter.unusedVariables false
namespace Go.Proofs.YtakijgpoaeggnaaGreat
open Go Sx
attribute [local irreducible] Exit.then Exit.inBlock bodyPost
def mixG (op : Bool → Bool → Bool) (g h : Grid) (j : Nat) : Grid := fun y x => if y < j then op (g y x) (h y x) else g y x
theorem mixG_zero (op : Bool → Bool → Bool) (g h : Grid) : (mixG op g h 0).eqv g := fun y x _ _ => by unfold mixG; rw [if_neg (by omega)]
theorem mixG_next (op : Bool → Bool → Bool) (g h : Grid) {j : Nat} : (Grid.row (mixG op g h j) j (fun i => op (mixG op g h j j i) (h j i))).eqv (mixG op g h (j + 1)) := fun y x _ _ => by
  unfold Grid.row mixG
  by_cases e : y = j
  · subst e; rw [if_pos rfl, if_neg (by omega), if_pos (by omega)]
  · rw [if_neg e]
    by_cases e2 : y < j
    · rw [if_pos e2, if_pos (by omega)]
    · rw [if_neg e2, if_neg (by omega)]
theorem mixG_all (op : Bool → Bool → Bool) (g h : Grid) {j : Nat} (hj : 16 ≤ j) : (mixG op g h j).eqv (fun y x => op (g y x) (h y x)) := fun y x hy _ => by unfold mixG; rw [if_pos (by omega)]
section
variable {P : Program} {n : Nat} {lo : SMut} {s : World} {E : SEnv} {L : SHeap} {d : Option Tmp} {ty : TypeId} {pos : String} {after : Array Edge} {g0 : Option (Nat × Bool)} {x y : Operand} {xt yt : TypeId}
end
theorem c_gor (g f : Grid) (w : World) : SYields Tryz.prog 47 #[gval g, gval f] (gval (g.or f)) w := by
  (first | apply SYields.mk | apply SYieldsF.mk | skip); refine s_enter Tryz.func47 rfl Tryz.ntmps47 rfl ?_
  repeat' (first | exact rfl | (apply kO; (first | exact ov_pure rfl | (apply kOBin; (first | exact aBin | exact (ov_orG rfl rfl))) | (apply kOCall; (first | (apply kCallB; (first | exact aBlt | exact aLenR)))) | (apply kOLoad; (first | exact (ov_ldG (mixG (fun p q => p || q) g f j) rfl rfl gpA (by omega)) | exact (ov_ldG f rfl rfl gpA (by omega)) | exact aLdF | exact aLdR)) | exact ov_fieldAddr rfl | (apply kOIdx; (first | exact (ov_indexAddrA rfl rfl (by omega)) | exact aIdx)) | exact aRest | exact aNew | exact (ov_field1 (ft := 31) rfl rfl rfl rfl))) | (refine kN ?_; (first | (refine kStore ?_; (first | (refine s_setR _ rfl rfl gpA rfl (by simp [gl]; omega) ?_) | refine s_store1 _ rfl rfl gpA rfl (by rfl) ?_ | refine s_storeS _ rfl rfl gpA rfl rfl (by rfl) ?_ | refine s_storeS _ rfl rfl gpA rfl (ones_img oiA) (by rfl) ?_)) | refine s_boxS rfl rfl (fun b hb => ?_) | refine s_allocS rfl (fun b hb => ?_) | refine s_box1 rfl rfl rfl (fun b hb => ?_) | refine s_alloc1 rfl rfl (fun b hb => ?_) | refine s_buildSlice0 rfl (fun b hb => ?_) | refine s_buildSlice rfl rfl rfl rfl rfl (fun b hb => ?_) | apply s_step)) | (refine kG ?_; (first | refine s_gyes rfl rfl rfl ?_ | refine s_gno rfl rfl rfl rfl rfl ?_ | ((first | refine s_split_d rfl rfl (fun h => ?_) (fun h => ?_) | refine s_split_n rfl rfl (fun h => ?_) (fun h => ?_)) <;> (try (first | contradiction | (exfalso; omega)))) | refine s_split_nb rfl rfl (fun h => ?_) (fun h => ?_) | refine s_split rfl rfl (fun h => ?_) (fun h => ?_))) | (refine kS ?_; (first | refine h_exec rfl ?_ | refine h_take_nil rfl rfl rfl ?_ | refine h_take_pick rfl rfl rfl ?_ | refine h_nil ?_ | refine h_alt ?_ ?_ | apply h_take)) | (refine kBack ?_; (first | refine h_back_last rfl ?_ | refine h_backN rfl subA ?_)) | refine l_then ?_ | (refine kC ?_; (first | (refine kReg 4 ?_; refine c_regionSN (SPlan.take 0 (SPlan.take 1 (SPlan.take 2 (SPlan.take 3 (SPlan.take 4 (SPlan.take 5 (SPlan.take 6 (SPlan.take 7 (SPlan.run 8 SPlan.done))))))))) (some 8) rfl rfl (by decide +kernel) ?_) | (refine kReg 4 ?_; refine c_regionSN (SPlan.take 0 (SPlan.take 1 (SPlan.take 2 (SPlan.take 3 (SPlan.take 4 (SPlan.take 5 (SPlan.take 6 (SPlan.take 7 (SPlan.run 8 SPlan.done))))))))) none rfl rfl (by decide +kernel) ?_) | (refine c_loopV (ι := Nat) (fun j => j ≤ 16) (fun j => [(6, .int .i64 (j : Int))]) (fun j => [_, _, [(_, srow (gl (mixG (fun p q => p || q) g f j)) _)]]) (fun j => 16 - j) 0 (by omega) rfl (fun _ => rfl) ⟨rfl, trivial⟩ (fun w hw => by rw [gl_congr (mixG_zero _ g f)]; exact hw) (fun j hj => ?_)) | refine c_seq ?_ | refine c_regionN rfl ?_ | refine c_ret ?_ | (refine kCond ?_; (first | refine c_cond_t rfl ?_ | refine c_cond_f rfl ?_ | ((first | refine c_cond_d rfl (fun h => ?_) (fun h => ?_) | refine c_cond_n rfl (fun h => ?_) (fun h => ?_)) <;> (try (first | contradiction | (exfalso; omega)))) | refine c_cond_nb rfl (fun h => ?_) (fun h => ?_) | refine c_cond rfl (fun h => ?_) (fun h => ?_))) | refine c_block ?_ | refine c_skip ?_ | refine c_exit ?_ | refine c_regionQN rfl rfl (by decide +kernel) ?_)) | apply s_stepQ | (refine kQG ?_; (first | refine s_gyesQ rfl rfl rfl ?_ | refine s_gnoQ rfl rfl rfl rfl rfl ?_ | ((first | refine s_splitQ_d rfl rfl (fun h => ?_) (fun h => ?_) | refine s_splitQ_n rfl rfl (fun h => ?_) (fun h => ?_)) <;> (try (first | contradiction | (exfalso; omega)))) | refine s_splitQ_nb rfl rfl (fun h => ?_) (fun h => ?_) | refine s_splitQ rfl rfl (fun h => ?_) (fun h => ?_))) | refine lQ_then ?_ | refine lQ_ends ?_ | (refine kE ?_; (first | refine e_then_r ?_ | refine e_block_r ?_ | refine e_then_n ?_ | refine e_then_x ?_ | refine e_block_n ?_ | refine e_block_x ?_ | refine e_block_y rfl ?_)) | refine l_ends ?_)
  · refine e_round (j + 1) (by omega) ⟨slook_to rfl (vint_to (by push_cast; rfl)), (by repeat' first | exact trivial | refine ⟨rfl, ?_⟩)⟩ (fun w hw => ?_) (by omega)
    have e : (gl (mixG (fun p q => p || q) g f j)).set (0 + (j : Int).toNat * 1) (.int .i64 (Sx.bits (fun i => (fun p q => p || q) (mixG (fun p q => p || q) g f j j i) (f j i)) 16 : Nat)) = gl (mixG (fun p q => p || q) g f (j + 1)) := by
      rw [Nat.zero_add, Nat.mul_one, Int.toNat_natCast, gl_set _ (by omega), gl_congr (mixG_next (fun p q => p || q) g f)]
    rw [← e]; exact hw
  · refine s_leaveSF rfl rfl rfl fwA (fun w hw => ⟨?_, hw.below⟩)
    show Ending.returned (gval (mixG (fun p q => p || q) g f j)) = _
    rw [gval_congr (mixG_all (fun p q => p || q) g f (by omega))]; rfl
theorem c_gand (g f : Grid) (w : World) : SYields Tryz.prog 107 #[gval g, gval f] (gval (g.and f)) w := by
  (first | apply SYields.mk | apply SYieldsF.mk | skip); refine s_enter Tryz.func107 rfl Tryz.ntmps107 rfl ?_
  repeat' (first | exact rfl | (apply kO; (first | exact ov_pure rfl | (apply kOBin; (first | exact aBin | exact (ov_andG rfl rfl))) | (apply kOCall; (first | (apply kCallB; (first | exact aBlt | exact aLenR)))) | (apply kOLoad; (first | exact (ov_ldG (mixG (fun p q => p && q) g f j) rfl rfl gpA (by omega)) | exact (ov_ldG f rfl rfl gpA (by omega)) | exact aLdF | exact aLdR)) | exact ov_fieldAddr rfl | (apply kOIdx; (first | exact (ov_indexAddrA rfl rfl (by omega)) | exact aIdx)) | exact aRest | exact aNew | exact (ov_field1 (ft := 31) rfl rfl rfl rfl))) | (refine kN ?_; (first | (refine kStore ?_; (first | (refine s_setR _ rfl rfl gpA rfl (by simp [gl]; omega) ?_) | refine s_store1 _ rfl rfl gpA rfl (by rfl) ?_ | refine s_storeS _ rfl rfl gpA rfl rfl (by rfl) ?_ | refine s_storeS _ rfl rfl gpA rfl (ones_img oiA) (by rfl) ?_)) | refine s_boxS rfl rfl (fun b hb => ?_) | refine s_allocS rfl (fun b hb => ?_) | refine s_box1 rfl rfl rfl (fun b hb => ?_) | refine s_alloc1 rfl rfl (fun b hb => ?_) | refine s_buildSlice0 rfl (fun b hb => ?_) | refine s_buildSlice rfl rfl rfl rfl rfl (fun b hb => ?_) | apply s_step)) | (refine kG ?_; (first | refine s_gyes rfl rfl rfl ?_ | refine s_gno rfl rfl rfl rfl rfl ?_ | ((first | refine s_split_d rfl rfl (fun h => ?_) (fun h => ?_) | refine s_split_n rfl rfl (fun h => ?_) (fun h => ?_)) <;> (try (first | contradiction | (exfalso; omega)))) | refine s_split_nb rfl rfl (fun h => ?_) (fun h => ?_) | refine s_split rfl rfl (fun h => ?_) (fun h => ?_))) | (refine kS ?_; (first | refine h_exec rfl ?_ | refine h_take_nil rfl rfl rfl ?_ | refine h_take_pick rfl rfl rfl ?_ | refine h_nil ?_ | refine h_alt ?_ ?_ | apply h_take)) | (refine kBack ?_; (first | refine h_back_last rfl ?_ | refine h_backN rfl subA ?_)) | refine l_then ?_ | (refine kC ?_; (first | (refine kReg 4 ?_; refine c_regionSN (SPlan.take 0 (SPlan.take 1 (SPlan.take 2 (SPlan.take 3 (SPlan.take 4 (SPlan.take 5 (SPlan.take 6 (SPlan.take 7 (SPlan.run 8 SPlan.done))))))))) (some 8) rfl rfl (by decide +kernel) ?_) | (refine kReg 4 ?_; refine c_regionSN (SPlan.take 0 (SPlan.take 1 (SPlan.take 2 (SPlan.take 3 (SPlan.take 4 (SPlan.take 5 (SPlan.take 6 (SPlan.take 7 (SPlan.run 8 SPlan.done))))))))) none rfl rfl (by decide +kernel) ?_) | (refine c_loopV (ι := Nat) (fun j => j ≤ 16) (fun j => [(6, .int .i64 (j : Int))]) (fun j => [_, _, [(_, srow (gl (mixG (fun p q => p && q) g f j)) _)]]) (fun j => 16 - j) 0 (by omega) rfl (fun _ => rfl) ⟨rfl, trivial⟩ (fun w hw => by rw [gl_congr (mixG_zero _ g f)]; exact hw) (fun j hj => ?_)) | refine c_seq ?_ | refine c_regionN rfl ?_ | refine c_ret ?_ | (refine kCond ?_; (first | refine c_cond_t rfl ?_ | refine c_cond_f rfl ?_ | ((first | refine c_cond_d rfl (fun h => ?_) (fun h => ?_) | refine c_cond_n rfl (fun h => ?_) (fun h => ?_)) <;> (try (first | contradiction | (exfalso; omega)))) | refine c_cond_nb rfl (fun h => ?_) (fun h => ?_) | refine c_cond rfl (fun h => ?_) (fun h => ?_))) | refine c_block ?_ | refine c_skip ?_ | refine c_exit ?_ | refine c_regionQN rfl rfl (by decide +kernel) ?_)) | apply s_stepQ | (refine kQG ?_; (first | refine s_gyesQ rfl rfl rfl ?_ | refine s_gnoQ rfl rfl rfl rfl rfl ?_ | ((first | refine s_splitQ_d rfl rfl (fun h => ?_) (fun h => ?_) | refine s_splitQ_n rfl rfl (fun h => ?_) (fun h => ?_)) <;> (try (first | contradiction | (exfalso; omega)))) | refine s_splitQ_nb rfl rfl (fun h => ?_) (fun h => ?_) | refine s_splitQ rfl rfl (fun h => ?_) (fun h => ?_))) | refine lQ_then ?_ | refine lQ_ends ?_ | (refine kE ?_; (first | refine e_then_r ?_ | refine e_block_r ?_ | refine e_then_n ?_ | refine e_then_x ?_ | refine e_block_n ?_ | refine e_block_x ?_ | refine e_block_y rfl ?_)) | refine l_ends ?_)
  · refine e_round (j + 1) (by omega) ⟨slook_to rfl (vint_to (by push_cast; rfl)), (by repeat' first | exact trivial | refine ⟨rfl, ?_⟩)⟩ (fun w hw => ?_) (by omega)
    have e : (gl (mixG (fun p q => p && q) g f j)).set (0 + (j : Int).toNat * 1) (.int .i64 (Sx.bits (fun i => (fun p q => p && q) (mixG (fun p q => p && q) g f j j i) (f j i)) 16 : Nat)) = gl (mixG (fun p q => p && q) g f (j + 1)) := by
      rw [Nat.zero_add, Nat.mul_one, Int.toNat_natCast, gl_set _ (by omega), gl_congr (mixG_next (fun p q => p && q) g f)]
    rw [← e]; exact hw
  · refine s_leaveSF rfl rfl rfl fwA (fun w hw => ⟨?_, hw.below⟩)
    show Ending.returned (gval (mixG (fun p q => p && q) g f j)) = _
    rw [gval_congr (mixG_all (fun p q => p && q) g f (by omega))]; rfl
end Go.Proofs.YtakijgpoaeggnaaGreat
/-
  Contract: the canonical form of a grid, by the program.
-/
set_option linter.unusedVariables false
namespace Go.Proofs.YtakijgpoaeggnaaGreat
open Go Sx
attribute [local irreducible] Exit.then Exit.inBlock bodyPost Sx.bits canonR rowR
theorem OVs.one {α : Type} {c : α → List Value} {k : Nat} {T : TypeId} {v : Value} {l : List α} {H : SPiece} (h : OVs c k T v l H) : v.oneCell' = true := by
  obtain ⟨a, q, rfl⟩ := h.form; rfl
theorem bits_same {g : Grid} {y z : Nat} : ((Sx.bits (g z) 16 : Nat) : Int) = (Sx.bits (g y) 16 : Nat) ↔ sameRow g y z = true := by
  rw [sameRow_iff]
  constructor
  · intro h; exact bits_inj.1 (by omega)
  · intro h; rw [bits_inj.2 h]
theorem hgt_of {g : Grid} {y e : Nat} (h1 : y + 1 ≤ e) (h2 : ∀ z, y < z → z < e → z < 16 ∧ sameRow g y z = true) (h3 : ¬ (e < 16 ∧ sameRow g y e = true)) : hgt g y = e - y := by
  have := rnl_eq (f := sameRow g y) (x := y + 1) (w := e - (y + 1)) (fun i a b => h2 i (by omega) (by omega)) (by rw [show y + 1 + (e - (y + 1)) = e by omega]; exact h3)
  unfold hgt; omega
theorem rnl_of {f : Nat → Bool} {x z : Nat} (h1 : x ≤ z) (h2 : ∀ i, x ≤ i → i < z → i < 16 ∧ f i = true) (h3 : ¬ (z < 16 ∧ f z = true)) : rnl f x = z - x :=
  rnl_eq (fun i a b => h2 i a (by omega)) (by rw [show x + (z - x) = z by omega]; exact h3)
theorem rowR_app {f : Nat → Bool} {y h : Int} {x z : Nat} (hx : x < 16) (h1 : x < z) (h2 : ∀ i, x ≤ i → i < z → i < 16 ∧ f i = true) (h3 : ¬ (z < 16 ∧ f z = true)) : rowR f y h x = [⟨x, y, (z : Int) - x, h⟩] ++ rowR f y h (z + 1) := by
  have e := rnl_of (Nat.le_of_lt h1) h2 h3
  rw [rowR_step hx, e, if_neg (by omega), show x + (z - x) + 1 = z + 1 by omega, show (((z - x : Nat)) : Int) = (z : Int) - x by omega]
theorem rowR_skip {f : Nat → Bool} {y h : Int} {x : Nat} (hx : x < 16) (h3 : ¬ (x < 16 ∧ f x = true)) : rowR f y h x = rowR f y h (x + 1) := by
  have e := rnl_of (Nat.le_refl x) (fun i a c => by omega) h3
  rw [rowR_step hx, e, if_pos (by omega), show x + (x - x) + 1 = x + 1 by omega]; rfl
set_option maxHeartbeats 4000000 in
theorem c_gregion (g : Grid) (W : World) : SYieldsF Tryz.prog 44 #[gval g] (fun u H => OReg u (canon g) H) W := by
  (first | apply SYields.mk | apply SYieldsF.mk | skip); refine s_enter Tryz.func44 rfl Tryz.ntmps44 rfl ?_
  repeat' (first | exact rfl | (apply kO; (first | exact ov_pure rfl | (apply kOBin; (first | exact aBin | exact (ov_andBit rfl rfl (by omega)))) | (apply kOCall; (first | (apply kCallB; (first | exact aBlt | exact aLenR)))) | (apply kOLoad; (first | exact (ov_ldG g rfl rfl gpA (by omega)) | exact aLdF | exact aLdR)) | exact ov_fieldAddr rfl | (apply kOIdx; (first | exact (ov_indexAddrA rfl rfl (by omega)) | exact aIdx)) | exact aRest | exact (ov_bit rfl rfl (by omega)) | exact aNew | exact (ov_field1 (ft := 31) rfl rfl rfl rfl))) | (refine kN ?_; (first | (refine kCall ?_; (first | (refine kWApp ?_; (refine s_appendVs _ _ (c := cRect) (kk := 4) (a := ⟨x.1, y.1, (z : Int) - x.1, (e : Int) - y.1⟩) rfl rfl (by assumption) gpA gpA rfl rfl (by rw [scells_eq]; rfl) (by decide) (by omega) (by decide) rfl (fun v' H' hv' => ?_); have f1 := hv'.form; obtain ⟨ua, uc, rfl⟩ := f1)) | apply s_step)) | (refine kStore ?_; (first | (refine s_storeS _ rfl rfl gpA rfl (ones_cons (OVs.one (by assumption)) rfl) (by rfl) ?_) | refine s_store1 _ rfl rfl gpA rfl (by rfl) ?_ | refine s_storeS _ rfl rfl gpA rfl rfl (by rfl) ?_ | refine s_storeS _ rfl rfl gpA rfl (ones_img oiA) (by rfl) ?_)) | refine s_boxS rfl rfl (fun b hb => ?_) | refine s_allocS rfl (fun b hb => ?_) | refine s_box1 rfl rfl rfl (fun b hb => ?_) | refine s_alloc1 rfl rfl (fun b hb => ?_) | refine s_buildSlice0 rfl (fun b hb => ?_) | refine s_buildSlice rfl rfl rfl rfl rfl (fun b hb => ?_) | apply s_step)) | (refine kG ?_; (first | refine s_gyes rfl rfl rfl ?_ | refine s_gno rfl rfl rfl rfl rfl ?_ | ((first | refine s_split_d rfl rfl (fun h => ?_) (fun h => ?_) | refine s_split_n rfl rfl (fun h => ?_) (fun h => ?_)) <;> (try (first | contradiction | (exfalso; omega)))) | refine s_split_nb rfl rfl (fun h => ?_) (fun h => ?_) | refine s_split rfl rfl (fun h => ?_) (fun h => ?_))) | refine l_then ?_ | (refine kC ?_; (first | (refine c_loopV (ι := Nat × List DRect × Value × SPiece) (fun y => y.1 ≤ 16 ∧ ORects y.2.2.1 y.2.1 y.2.2.2 ∧ y.2.1 ++ canonR g y.1 = canon g ∧ y.2.1.length ≤ 8 * y.1) (fun y => [(4, .int .i64 (y.1 : Int))]) (fun y => [[(_, srow [y.2.2.1] 43)], y.2.2.2, _, _]) (fun y => 16 - y.1) (0, [], _, []) ⟨by dsimp only; omega, OVs.nil, (show [] ++ canonR g 0 = canonR g 0 from List.nil_append _), by dsimp only; simp⟩ rfl (fun _ => rfl) ⟨rfl, trivial⟩ (fun w hw => hw.nil1) (fun y hy => ?_); obtain ⟨hy1, hy2, hy3, hy4⟩ := hy) | (refine c_loopV (ι := Nat) (fun e => (y.1 + 1 ≤ e ∧ e ≤ 16) ∧ ∀ z, y.1 < z → z < e → z < 16 ∧ sameRow g y.1 z = true) (fun e => [(5, .int .i64 (e : Int))]) (fun e => [_, _, _, _]) (fun e => 16 - e) (y.1 + 1) ⟨by omega, fun z a b => by omega⟩ rfl (fun _ => rfl) ⟨slook_to rfl (vint_to (by push_cast; rfl)), trivial⟩ (fun w hw => hw) (fun e he => ?_); obtain ⟨he1, he2⟩ := he) | (refine c_loopV (ι := Nat × List DRect × Value × SPiece) (fun x => x.1 ≤ 17 ∧ ORects x.2.2.1 x.2.1 x.2.2.2 ∧ x.2.1 ++ (rowR (g y.1) y.1 ((e : Int) - y.1) x.1 ++ canonR g e) = canon g ∧ x.2.1.length ≤ 8 * y.1 + x.1 / 2) (fun x => [(6, .int .i64 (x.1 : Int))]) (fun x => [[(_, srow [x.2.2.1] 43)], x.2.2.2, _, _]) (fun x => 17 - x.1) (0, y.2.1, y.2.2.1, y.2.2.2) ⟨by dsimp only; omega, hy2, by dsimp only; rw [← hy3, canonR_step (g := g) (y := y.1) (by omega), hgt_of he1.1 he2 (fun hh => by first | omega | (exact absurd (bits_same.2 hh.2) (by assumption))), show y.1 + (e - y.1) = e by omega, show (((e - y.1 : Nat)) : Int) = (e : Int) - y.1 by omega], by dsimp only; omega⟩ rfl (fun _ => rfl) ⟨rfl, trivial⟩ (fun w hw => hw) (fun x hx => ?_); obtain ⟨hx1, hx2, hx3, hx4⟩ := hx) | (refine c_loopV (ι := Nat) (fun z => (x.1 ≤ z ∧ z ≤ 16) ∧ ∀ i, x.1 ≤ i → i < z → i < 16 ∧ g y.1 i = true) (fun z => [(6, .int .i64 (z : Int))]) (fun z => [_, _, _, _]) (fun z => 16 - z) x.1 ⟨by omega, fun i a b => by omega⟩ rfl (fun _ => rfl) ⟨rfl, trivial⟩ (fun w hw => hw) (fun z hz => ?_); obtain ⟨hz1, hz2⟩ := hz) | refine c_seq ?_ | refine c_regionN rfl ?_ | refine c_ret ?_ | (refine kCond ?_; (first | refine c_cond_t rfl ?_ | refine c_cond_f rfl ?_ | ((first | refine c_cond_d rfl (fun h => ?_) (fun h => ?_) | refine c_cond_n rfl (fun h => ?_) (fun h => ?_)) <;> (try (first | contradiction | (exfalso; omega)))) | refine c_cond_nb rfl (fun h => ?_) (fun h => ?_) | refine c_cond rfl (fun h => ?_) (fun h => ?_))) | refine c_block ?_ | refine c_skip ?_ | refine c_exit ?_ | refine c_regionQN rfl rfl (by decide +kernel) ?_)) | apply s_stepQ | (refine kQG ?_; (first | refine s_gyesQ rfl rfl rfl ?_ | refine s_gnoQ rfl rfl rfl rfl rfl ?_ | ((first | refine s_splitQ_d rfl rfl (fun h => ?_) (fun h => ?_) | refine s_splitQ_n rfl rfl (fun h => ?_) (fun h => ?_)) <;> (try (first | contradiction | (exfalso; omega)))) | refine s_splitQ_nb rfl rfl (fun h => ?_) (fun h => ?_) | refine s_splitQ rfl rfl (fun h => ?_) (fun h => ?_))) | refine lQ_then ?_ | refine lQ_ends ?_ | (refine kE ?_; (first | refine e_then_r ?_ | refine e_block_r ?_ | refine e_then_n ?_ | refine e_then_x ?_ | refine e_block_n ?_ | refine e_block_x ?_ | refine e_block_y rfl ?_)) | refine l_ends ?_)
  · refine e_round (e + 1) ⟨by omega, fun z a c => ?_⟩ ⟨slook_to rfl (vint_to (by push_cast; rfl)), (by repeat' first | exact trivial | refine ⟨rfl, ?_⟩)⟩ (fun w hw => hw) (by omega)
    by_cases e0 : z = e
    · subst e0; exact ⟨by omega, bits_same.1 h⟩
    · exact he2 z a (by omega)
  · refine e_round (z + 1) ⟨by omega, fun i a c => ?_⟩ ⟨slook_to rfl (vint_to (by push_cast; rfl)), (by repeat' first | exact trivial | refine ⟨rfl, ?_⟩)⟩ (fun w hw => hw) (by omega)
    by_cases e0 : i = z
    · subst e0; exact ⟨by omega, bit_ne.1 h⟩
    · exact hz2 i a (by omega)
  · have hxz : x.1 < z := by omega
    have hn : ¬ (z < 16 ∧ g y.1 z = true) := fun hh => by first | omega | exact absurd (bit_ne.2 hh.2) (by assumption)
    refine e_round (z + 1, _, _, H') ⟨by dsimp only; omega, hv', ?_, by dsimp only; rw [List.length_append, List.length_singleton]; omega⟩ ⟨slook_to rfl (vint_to (by push_cast; rfl)), (by repeat' first | exact trivial | refine ⟨rfl, ?_⟩)⟩ (fun w hw => hw.sub (selO_sub [false, true, true, true, true] _ _ rfl)) (by dsimp only; omega)
    dsimp only
    rw [← hx3, rowR_app (f := g y.1) (y := y.1) (h := (e : Int) - y.1) (by omega) hxz hz2 hn, List.append_assoc, List.append_assoc]
  · have hxz : z = x.1 := by omega
    have hn : ¬ (z < 16 ∧ g y.1 z = true) := fun hh => by first | omega | exact absurd (bit_ne.2 hh.2) (by assumption)
    subst hxz
    refine e_round (x.1 + 1, x.2.1, x.2.2.1, x.2.2.2) ⟨by dsimp only; omega, hx2, ?_, by dsimp only; omega⟩ ⟨slook_to rfl (vint_to (by push_cast; rfl)), (by repeat' first | exact trivial | refine ⟨rfl, ?_⟩)⟩ (fun w hw => hw) (by dsimp only; omega)
    dsimp only
    rw [← rowR_skip (f := g y.1) (y := y.1) (h := (e : Int) - y.1) (by omega) hn]; exact hx3
  · have hxz : x.1 < z := by omega
    have hn : ¬ (z < 16 ∧ g y.1 z = true) := fun hh => by first | omega | exact absurd (bit_ne.2 hh.2) (by assumption)
    refine e_round (z + 1, _, _, H') ⟨by dsimp only; omega, hv', ?_, by dsimp only; rw [List.length_append, List.length_singleton]; omega⟩ ⟨slook_to rfl (vint_to (by push_cast; rfl)), (by repeat' first | exact trivial | refine ⟨rfl, ?_⟩)⟩ (fun w hw => hw.sub (selO_sub [false, true, true, true, true] _ _ rfl)) (by dsimp only; omega)
    dsimp only
    rw [← hx3, rowR_app (f := g y.1) (y := y.1) (h := (e : Int) - y.1) (by omega) hxz hz2 hn, List.append_assoc, List.append_assoc]
  · rw [rowR_done (by omega), List.nil_append] at hx3
    exact e_round (e, x.2.1, x.2.2.1, x.2.2.2) ⟨by dsimp only; omega, hx2, hx3, by dsimp only; omega⟩ ⟨slook_to rfl (vint_to (by rfl)), (by repeat' first | exact trivial | refine ⟨rfl, ?_⟩)⟩ (fun w hw => hw) (by dsimp only; omega)
  · refine e_round (z + 1) ⟨by omega, fun i a c => ?_⟩ ⟨slook_to rfl (vint_to (by push_cast; rfl)), (by repeat' first | exact trivial | refine ⟨rfl, ?_⟩)⟩ (fun w hw => hw) (by omega)
    by_cases e0 : i = z
    · subst e0; exact ⟨by omega, bit_ne.1 h⟩
    · exact hz2 i a (by omega)
  · have hxz : x.1 < z := by omega
    have hn : ¬ (z < 16 ∧ g y.1 z = true) := fun hh => by first | omega | exact absurd (bit_ne.2 hh.2) (by assumption)
    refine e_round (z + 1, _, _, H') ⟨by dsimp only; omega, hv', ?_, by dsimp only; rw [List.length_append, List.length_singleton]; omega⟩ ⟨slook_to rfl (vint_to (by push_cast; rfl)), (by repeat' first | exact trivial | refine ⟨rfl, ?_⟩)⟩ (fun w hw => hw.sub (selO_sub [false, true, true, true, true] _ _ rfl)) (by dsimp only; omega)
    dsimp only
    rw [← hx3, rowR_app (f := g y.1) (y := y.1) (h := (e : Int) - y.1) (by omega) hxz hz2 hn, List.append_assoc, List.append_assoc]
  · have hxz : z = x.1 := by omega
    have hn : ¬ (z < 16 ∧ g y.1 z = true) := fun hh => by first | omega | exact absurd (bit_ne.2 hh.2) (by assumption)
    subst hxz
    refine e_round (x.1 + 1, x.2.1, x.2.2.1, x.2.2.2) ⟨by dsimp only; omega, hx2, ?_, by dsimp only; omega⟩ ⟨slook_to rfl (vint_to (by push_cast; rfl)), (by repeat' first | exact trivial | refine ⟨rfl, ?_⟩)⟩ (fun w hw => hw) (by dsimp only; omega)
    dsimp only
    rw [← rowR_skip (f := g y.1) (y := y.1) (h := (e : Int) - y.1) (by omega) hn]; exact hx3
  · have hxz : x.1 < z := by omega
    have hn : ¬ (z < 16 ∧ g y.1 z = true) := fun hh => by first | omega | exact absurd (bit_ne.2 hh.2) (by assumption)
    refine e_round (z + 1, _, _, H') ⟨by dsimp only; omega, hv', ?_, by dsimp only; rw [List.length_append, List.length_singleton]; omega⟩ ⟨slook_to rfl (vint_to (by push_cast; rfl)), (by repeat' first | exact trivial | refine ⟨rfl, ?_⟩)⟩ (fun w hw => hw.sub (selO_sub [false, true, true, true, true] _ _ rfl)) (by dsimp only; omega)
    dsimp only
    rw [← hx3, rowR_app (f := g y.1) (y := y.1) (h := (e : Int) - y.1) (by omega) hxz hz2 hn, List.append_assoc, List.append_assoc]
  · rw [rowR_done (by omega), List.nil_append] at hx3
    exact e_round (e, x.2.1, x.2.2.1, x.2.2.2) ⟨by dsimp only; omega, hx2, hx3, by dsimp only; omega⟩ ⟨slook_to rfl (vint_to (by rfl)), (by repeat' first | exact trivial | refine ⟨rfl, ?_⟩)⟩ (fun w hw => hw) (by dsimp only; omega)
  · have e0 : y.1 = 16 := by omega
    rw [e0, canonR_done (by omega), List.append_nil] at hy3
    rw [hy3] at hy2
    exact s_leaveSF rfl rfl rfl fwA (fun w hw => ⟨_, _, rfl, ⟨_, rfl, hy2⟩, hw.toFresh (H := y.2.2.2) gpA⟩)
end Go.Proofs.YtakijgpoaeggnaaGreat
/-
  Contracts: chains of buffers that are copied, by both.
-/
set_option linter.unusedVariables false
namespace Go.Proofs.YtakijgpoaeggnaaGreat
open Go Sx
attribute [local irreducible] Exit.then Exit.inBlock bodyPost
theorem ones_app : ∀ {a c : List Value}, oneCells a = true → oneCells c = true → oneCells (a ++ c) = true
  | [], c, _, h => h
  | x :: a, c, h, h2 => by
    simp only [oneCells, Bool.and_eq_true] at h
    rw [List.cons_append]
    exact ones_cons h.1 (ones_app h.2 h2)
theorem ones_rects : ∀ l : List DRect, oneCells (l.flatMap cRect) = true
  | [] => rfl
  | x :: l => by
    rw [List.flatMap_cons]
    exact ones_app rfl (ones_rects l)
theorem rects_nil {w : World} {c : Nat} {l : List DRect} (h : RRects w (.slice none l.length c) l) : l = [] := by
  obtain ⟨a, c', he, hf⟩ := RRow.form h
  by_cases hn : 0 < l.length
  · obtain ⟨b, o, rfl⟩ := hf hn; cases he
  · exact List.eq_nil_of_length_eq_zero (by omega)
theorem ints_nil {w : World} {c : Nat} {l : List Int} (h : RInts w (.slice none l.length c) l) : l = [] := by
  obtain ⟨a, c', he, hf⟩ := RRow.form h
  by_cases hn : 0 < l.length
  · obtain ⟨b, o, rfl⟩ := hf hn; cases he
  · exact List.eq_nil_of_length_eq_zero (by omega)
theorem rects_src {w : World} {A : Addr} {c : Nat} {l : List DRect} (h : RRects w (.slice (some A) l.length c) l) : ∀ j q, (l.flatMap cRect)[j]? = some q → w.cell? (A.add j) = some q := by
  rw [flatMap_range (c := cRect) DRect.zero l]
  exact RRow.src h (by decide)
section
variable {P : Program} {n : Nat} {lo : SMut} {s : World} {ops : Array Oper} {Q : Exit → Act → World → Prop} {E : SEnv} {L : SHeap} {d : Nat} {ty : TypeId} {pos : String} {after : Array Edge} {rest : List Oper}
theorem s_appendRI (i : Nat) {t e : TypeId} {x y : Operand} {b by_ : Nat} {v z : Value} {l : List Int} {X : TypeId} [hu : SUnd P t (.slice e)] [hinf : SInf P e z 1 by_]
    (hx : sval E x = some (.slice (some ⟨b, 0, none⟩) 0 0)) (hy : sval E y = some v) (hL : getL L i = some [(b, srow [] e)]) (hlo : lo = []) (hv : RInts s v l) (hl : l.length ≤ 1000000000) (hz : z.cells.size = 1) (hby : by_ ≤ 1024) (hd : Nat.blt d n = true)
    (k : ∀ v' H', OInts e v' l H' → WPL P n lo s ops Q rest ((d, v') :: E) (setL L i H')) :
    WPL P n lo s ops Q (⟨some d, .call { callee := .builtin .append, args := #[x, y], argTypes := #[t, t] }, X, pos, after, none⟩ :: rest) E L := by
  have hf := hv.form
  obtain ⟨a, c, rfl⟩ := hf
  cases a with
  | none =>
    have h0 := ints_nil hv
    subst h0
    refine s_step (ov_appendNil hx hy (Nat.le_refl _)) hd ?_
    have := k _ _ (OInts.empty e b)
    obtain ⟨A, B, h1, h2⟩ := getL_split hL
    rw [h2, ← h1] at this
    exact this
  | some A =>
    have hmul : (0 + l.length) * by_ ≤ 1000000000 * 1024 := Nat.mul_le_mul (by omega) hby
    refine s_append i (ys := ivals l) (m := l.length) hx hy (OVec.empty 1 e b) hL hz (by decide) (by rw [ivals_length, Nat.mul_one]) (oneCells_ivals l) (fun w hw => ⟨_, _, rfl, RInts.src (hv.keep (hw.cells hlo))⟩) (by omega) (by omega) hd (fun v' H' hv' => k v' H' ?_)
    simpa [OInts] using hv'
theorem s_appendRV (i : Nat) {t e : TypeId} {x y : Operand} {b by_ : Nat} {v z : Value} {l : List DRect} {X : TypeId} [hu : SUnd P t (.slice e)] [hinf : SInf P e z 4 by_]
    (hx : sval E x = some (.slice (some ⟨b, 0, none⟩) 0 0)) (hy : sval E y = some v) (hL : getL L i = some [(b, srow [] e)]) (hlo : lo = []) (hv : RRects s v l) (hl : l.length ≤ 1000000000) (hz : z.cells.size = 4) (hby : by_ ≤ 1024) (hd : Nat.blt d n = true)
    (k : ∀ v' H', OVs cRect 4 e v' l H' → WPL P n lo s ops Q rest ((d, v') :: E) (setL L i H')) :
    WPL P n lo s ops Q (⟨some d, .call { callee := .builtin .append, args := #[x, y], argTypes := #[t, t] }, X, pos, after, none⟩ :: rest) E L := by
  have hf := RVs.form hv
  obtain ⟨a, c, rfl⟩ := hf
  cases a with
  | none =>
    have h0 := rects_nil hv
    subst h0
    refine s_step (ov_appendNil hx hy (Nat.le_refl _)) hd ?_
    have := k _ _ (OVs.empty b)
    obtain ⟨A, B, h1, h2⟩ := getL_split hL
    rw [h2, ← h1] at this
    exact this
  | some A =>
    have hmul : (0 + l.length) * by_ ≤ 1000000000 * 1024 := Nat.mul_le_mul (by omega) hby
    refine s_append i (ys := l.flatMap cRect) (m := l.length) hx hy (OVec.empty 4 e b) hL hz (by decide) (flatMap_length (c := cRect) (k := 4) (fun _ => rfl) l) (ones_rects l) (fun w hw => ⟨_, _, rfl, rects_src (RVs.keep hv (hw.cells hlo))⟩) (by omega) (by omega) hd (fun v' H' hv' => k v' H' ?_)
    simpa [OVs] using hv'
end
attribute [local irreducible] OVs OInts OElems
theorem c_cloneR (v : Value) (l : List DRect) (W : World) (hv : RRects W v l) (hl : l.length ≤ 1000000000) : SYieldsF Tryz.prog 154 #[v] (fun u H => ORects u l H) W := by
  have hf := RVs.form hv
  obtain ⟨a, c, rfl⟩ := hf
  cases a with
  | none =>
    have h0 := rects_nil hv
    subst h0
    (first | apply SYields.mk | apply SYieldsF.mk | skip); refine s_enter Tryz.func154 rfl Tryz.ntmps154 rfl ?_
    repeat' (first | exact rfl | (apply kO; (first | exact ov_pure rfl | (apply kOBin; (first | exact aBin)) | (apply kOCall; (first | (apply kCallB; (first | exact aBlt | exact aLenR)))) | (apply kOLoad; (first | exact aLdF | exact aLdR)) | exact ov_fieldAddr rfl | (apply kOIdx; (first | exact aIdx)) | exact aRest | exact aNew | exact (ov_field1 (ft := 31) rfl rfl rfl rfl))) | (refine kN ?_; (first | (refine kStore ?_; (first | refine s_store1 _ rfl rfl gpA rfl (by rfl) ?_ | refine s_storeS _ rfl rfl gpA rfl rfl (by rfl) ?_ | refine s_storeS _ rfl rfl gpA rfl (ones_img oiA) (by rfl) ?_)) | refine s_boxS rfl rfl (fun b hb => ?_) | refine s_allocS rfl (fun b hb => ?_) | refine s_box1 rfl rfl rfl (fun b hb => ?_) | refine s_alloc1 rfl rfl (fun b hb => ?_) | refine s_buildSlice0 rfl (fun b hb => ?_) | refine s_buildSlice rfl rfl rfl rfl rfl (fun b hb => ?_) | apply s_step)) | (refine kG ?_; (first | refine s_gyes rfl rfl rfl ?_ | refine s_gno rfl rfl rfl rfl rfl ?_ | ((first | refine s_split_d rfl rfl (fun h => ?_) (fun h => ?_) | refine s_split_n rfl rfl (fun h => ?_) (fun h => ?_)) <;> (try (first | contradiction | (exfalso; omega)))) | refine s_split_nb rfl rfl (fun h => ?_) (fun h => ?_) | refine s_split rfl rfl (fun h => ?_) (fun h => ?_))) | refine l_then ?_ | (refine kC ?_; (first | refine c_seq ?_ | refine c_regionN rfl ?_ | refine c_ret ?_ | (refine kCond ?_; (first | refine c_cond_t rfl ?_ | refine c_cond_f rfl ?_ | ((first | refine c_cond_d rfl (fun h => ?_) (fun h => ?_) | refine c_cond_n rfl (fun h => ?_) (fun h => ?_)) <;> (try (first | contradiction | (exfalso; omega)))) | refine c_cond_nb rfl (fun h => ?_) (fun h => ?_) | refine c_cond rfl (fun h => ?_) (fun h => ?_))) | refine c_block ?_ | refine c_skip ?_ | refine c_exit ?_ | refine c_regionQN rfl rfl (by decide +kernel) ?_)) | apply s_stepQ | (refine kQG ?_; (first | refine s_gyesQ rfl rfl rfl ?_ | refine s_gnoQ rfl rfl rfl rfl rfl ?_ | ((first | refine s_splitQ_d rfl rfl (fun h => ?_) (fun h => ?_) | refine s_splitQ_n rfl rfl (fun h => ?_) (fun h => ?_)) <;> (try (first | contradiction | (exfalso; omega)))) | refine s_splitQ_nb rfl rfl (fun h => ?_) (fun h => ?_) | refine s_splitQ rfl rfl (fun h => ?_) (fun h => ?_))) | refine lQ_then ?_ | refine lQ_ends ?_ | (refine kE ?_; (first | refine e_then_r ?_ | refine e_block_r ?_ | refine e_then_n ?_ | refine e_then_x ?_ | refine e_block_n ?_ | refine e_block_x ?_ | refine e_block_y rfl ?_)) | refine l_ends ?_)
    all_goals exact s_leave1 rfl rfl (fun w hw => ⟨_, [], rfl, OVs.nil, hw.toFresh0⟩)
  | some A =>
    (first | apply SYields.mk | apply SYieldsF.mk | skip); refine s_enter Tryz.func154 rfl Tryz.ntmps154 rfl ?_
    repeat' (first | exact rfl | (apply kO; (first | exact ov_pure rfl | (apply kOBin; (first | exact aBin)) | (apply kOCall; (first | (apply kCallB; (first | exact aBlt | exact aLenR)))) | (apply kOLoad; (first | exact aLdF | exact aLdR)) | exact ov_fieldAddr rfl | (apply kOIdx; (first | exact aIdx)) | exact aRest | exact aNew | exact (ov_field1 (ft := 31) rfl rfl rfl rfl))) | (refine kN ?_; (first | (refine kCall ?_; (first | (refine kWApp ?_; (refine s_appendRV _ rfl rfl gpA rfl hv hl (by rw [scells_eq]; rfl) (by decide) rfl (fun v' H' hv' => ?_))) | apply s_step)) | (refine kStore ?_; (first | refine s_store1 _ rfl rfl gpA rfl (by rfl) ?_ | refine s_storeS _ rfl rfl gpA rfl rfl (by rfl) ?_ | refine s_storeS _ rfl rfl gpA rfl (ones_img oiA) (by rfl) ?_)) | refine s_boxS rfl rfl (fun b hb => ?_) | refine s_allocS rfl (fun b hb => ?_) | refine s_box1 rfl rfl rfl (fun b hb => ?_) | refine s_alloc1 rfl rfl (fun b hb => ?_) | refine s_buildSlice0 rfl (fun b hb => ?_) | refine s_buildSlice rfl rfl rfl rfl rfl (fun b hb => ?_) | apply s_step)) | (refine kG ?_; (first | refine s_gyes rfl rfl rfl ?_ | refine s_gno rfl rfl rfl rfl rfl ?_ | ((first | refine s_split_d rfl rfl (fun h => ?_) (fun h => ?_) | refine s_split_n rfl rfl (fun h => ?_) (fun h => ?_)) <;> (try (first | contradiction | (exfalso; omega)))) | refine s_split_nb rfl rfl (fun h => ?_) (fun h => ?_) | refine s_split rfl rfl (fun h => ?_) (fun h => ?_))) | refine l_then ?_ | (refine kC ?_; (first | refine c_seq ?_ | refine c_regionN rfl ?_ | refine c_ret ?_ | (refine kCond ?_; (first | refine c_cond_t rfl ?_ | refine c_cond_f rfl ?_ | ((first | refine c_cond_d rfl (fun h => ?_) (fun h => ?_) | refine c_cond_n rfl (fun h => ?_) (fun h => ?_)) <;> (try (first | contradiction | (exfalso; omega)))) | refine c_cond_nb rfl (fun h => ?_) (fun h => ?_) | refine c_cond rfl (fun h => ?_) (fun h => ?_))) | refine c_block ?_ | refine c_skip ?_ | refine c_exit ?_ | refine c_regionQN rfl rfl (by decide +kernel) ?_)) | apply s_stepQ | (refine kQG ?_; (first | refine s_gyesQ rfl rfl rfl ?_ | refine s_gnoQ rfl rfl rfl rfl rfl ?_ | ((first | refine s_splitQ_d rfl rfl (fun h => ?_) (fun h => ?_) | refine s_splitQ_n rfl rfl (fun h => ?_) (fun h => ?_)) <;> (try (first | contradiction | (exfalso; omega)))) | refine s_splitQ_nb rfl rfl (fun h => ?_) (fun h => ?_) | refine s_splitQ rfl rfl (fun h => ?_) (fun h => ?_))) | refine lQ_then ?_ | refine lQ_ends ?_ | (refine kE ?_; (first | refine e_then_r ?_ | refine e_block_r ?_ | refine e_then_n ?_ | refine e_then_x ?_ | refine e_block_n ?_ | refine e_block_x ?_ | refine e_block_y rfl ?_)) | refine l_ends ?_)
    all_goals exact s_leave1 rfl rfl (fun w hw => ⟨_, H', rfl, hv', hw.toFresh (H := H') gpA⟩)
theorem c_copyReg (v : Value) (l : List DRect) (W : World) (hv : RRects W v l) (hl : l.length ≤ 1000000000) : SYieldsF Tryz.prog 110 #[vReg v] (fun u H => OReg u l H) W := by
  have h1 := RRects.one hv
  (first | apply SYields.mk | apply SYieldsF.mk | skip); refine s_enter Tryz.func110 rfl Tryz.ntmps110 rfl ?_
  repeat' (first | exact rfl | (apply kO; (first | exact ov_pure rfl | (apply kOBin; (first | exact aBin)) | (apply kOCall; (first | (apply kCallB; (first | exact aBlt | exact aLenR)))) | (apply kOLoad; (first | exact aLdF | exact aLdR)) | exact ov_fieldAddr rfl | (apply kOIdx; (first | exact aIdx)) | exact aRest | exact aNew | exact (ov_field1 (ft := 31) rfl rfl rfl rfl))) | (refine kN ?_; (first | (refine kCall ?_; (first | (refine kWFn 154 ?_; (refine s_callF (fun u H => ORects u l H) rfl (fun w hw => c_cloneR _ l w (RVs.keep hv (hw.cells rfl)) hl) rfl (fun u H hu => ?_); have f1 := hu.form; obtain ⟨_, _, rfl⟩ := f1)) | apply s_step)) | (refine kStore ?_; (first | (refine s_storeS _ rfl rfl gpA rfl (ones_cons (OVs.one (by assumption)) rfl) (by rfl) ?_) | refine s_store1 _ rfl rfl gpA rfl (by rfl) ?_ | refine s_storeS _ rfl rfl gpA rfl rfl (by rfl) ?_ | refine s_storeS _ rfl rfl gpA rfl (ones_img oiA) (by rfl) ?_)) | refine s_boxS rfl rfl (fun b hb => ?_) | refine s_allocS rfl (fun b hb => ?_) | refine s_box1 rfl rfl rfl (fun b hb => ?_) | refine s_alloc1 rfl rfl (fun b hb => ?_) | refine s_buildSlice0 rfl (fun b hb => ?_) | refine s_buildSlice rfl rfl rfl rfl rfl (fun b hb => ?_) | apply s_step)) | (refine kG ?_; (first | refine s_gyes rfl rfl rfl ?_ | refine s_gno rfl rfl rfl rfl rfl ?_ | ((first | refine s_split_d rfl rfl (fun h => ?_) (fun h => ?_) | refine s_split_n rfl rfl (fun h => ?_) (fun h => ?_)) <;> (try (first | contradiction | (exfalso; omega)))) | refine s_split_nb rfl rfl (fun h => ?_) (fun h => ?_) | refine s_split rfl rfl (fun h => ?_) (fun h => ?_))) | refine l_then ?_ | (refine kC ?_; (first | refine c_seq ?_ | refine c_regionN rfl ?_ | refine c_ret ?_ | (refine kCond ?_; (first | refine c_cond_t rfl ?_ | refine c_cond_f rfl ?_ | ((first | refine c_cond_d rfl (fun h => ?_) (fun h => ?_) | refine c_cond_n rfl (fun h => ?_) (fun h => ?_)) <;> (try (first | contradiction | (exfalso; omega)))) | refine c_cond_nb rfl (fun h => ?_) (fun h => ?_) | refine c_cond rfl (fun h => ?_) (fun h => ?_))) | refine c_block ?_ | refine c_skip ?_ | refine c_exit ?_ | refine c_regionQN rfl rfl (by decide +kernel) ?_)) | apply s_stepQ | (refine kQG ?_; (first | refine s_gyesQ rfl rfl rfl ?_ | refine s_gnoQ rfl rfl rfl rfl rfl ?_ | ((first | refine s_splitQ_d rfl rfl (fun h => ?_) (fun h => ?_) | refine s_splitQ_n rfl rfl (fun h => ?_) (fun h => ?_)) <;> (try (first | contradiction | (exfalso; omega)))) | refine s_splitQ_nb rfl rfl (fun h => ?_) (fun h => ?_) | refine s_splitQ rfl rfl (fun h => ?_) (fun h => ?_))) | refine lQ_then ?_ | refine lQ_ends ?_ | (refine kE ?_; (first | refine e_then_r ?_ | refine e_block_r ?_ | refine e_then_n ?_ | refine e_then_x ?_ | refine e_block_n ?_ | refine e_block_x ?_ | refine e_block_y rfl ?_)) | refine l_ends ?_)
  all_goals (refine kE ?_; refine s_leaveSF rfl rfl rfl fwA (fun w hw => ?_))
  all_goals exact ⟨_, _, rfl, ⟨_, rfl, hu⟩, hw.toFresh (H := H) gpA⟩
theorem c_l14CopyRegion (v : Value) (l : List DRect) (W : World) (hv : RRects W v l) (hl : l.length ≤ 1000000000) : SYieldsF Tryz.prog 83 #[vReg v] (fun u H => OReg u l H) W := by
  have h1 := RRects.one hv
  (first | apply SYields.mk | apply SYieldsF.mk | skip); refine s_enter Tryz.func83 rfl Tryz.ntmps83 rfl ?_
  repeat' (first | exact rfl | (apply kO; (first | exact ov_pure rfl | (apply kOBin; (first | exact aBin)) | (apply kOCall; (first | (apply kCallB; (first | exact aBlt | exact aLenR)))) | (apply kOLoad; (first | exact aLdF | exact aLdR)) | exact ov_fieldAddr rfl | (apply kOIdx; (first | exact aIdx)) | exact aRest | exact aNew | exact (ov_field1 (ft := 31) rfl rfl rfl rfl))) | (refine kN ?_; (first | (refine kCall ?_; (first | (refine kWApp ?_; (refine s_appendRV _ rfl rfl gpA rfl hv hl (by rw [scells_eq]; rfl) (by decide) rfl (fun v' H' hv' => ?_); have f1 := hv'.form; obtain ⟨_, _, rfl⟩ := f1)) | apply s_step)) | (refine kStore ?_; (first | (refine s_storeS _ rfl rfl gpA rfl (ones_cons (OVs.one (by assumption)) rfl) (by rfl) ?_) | refine s_store1 _ rfl rfl gpA rfl (by rfl) ?_ | refine s_storeS _ rfl rfl gpA rfl rfl (by rfl) ?_ | refine s_storeS _ rfl rfl gpA rfl (ones_img oiA) (by rfl) ?_)) | refine s_boxS rfl rfl (fun b hb => ?_) | refine s_allocS rfl (fun b hb => ?_) | refine s_box1 rfl rfl rfl (fun b hb => ?_) | refine s_alloc1 rfl rfl (fun b hb => ?_) | refine s_buildSlice0 rfl (fun b hb => ?_) | refine s_buildSlice rfl rfl rfl rfl rfl (fun b hb => ?_) | apply s_step)) | (refine kG ?_; (first | refine s_gyes rfl rfl rfl ?_ | refine s_gno rfl rfl rfl rfl rfl ?_ | ((first | refine s_split_d rfl rfl (fun h => ?_) (fun h => ?_) | refine s_split_n rfl rfl (fun h => ?_) (fun h => ?_)) <;> (try (first | contradiction | (exfalso; omega)))) | refine s_split_nb rfl rfl (fun h => ?_) (fun h => ?_) | refine s_split rfl rfl (fun h => ?_) (fun h => ?_))) | refine l_then ?_ | (refine kC ?_; (first | refine c_seq ?_ | refine c_regionN rfl ?_ | refine c_ret ?_ | (refine kCond ?_; (first | refine c_cond_t rfl ?_ | refine c_cond_f rfl ?_ | ((first | refine c_cond_d rfl (fun h => ?_) (fun h => ?_) | refine c_cond_n rfl (fun h => ?_) (fun h => ?_)) <;> (try (first | contradiction | (exfalso; omega)))) | refine c_cond_nb rfl (fun h => ?_) (fun h => ?_) | refine c_cond rfl (fun h => ?_) (fun h => ?_))) | refine c_block ?_ | refine c_skip ?_ | refine c_exit ?_ | refine c_regionQN rfl rfl (by decide +kernel) ?_)) | apply s_stepQ | (refine kQG ?_; (first | refine s_gyesQ rfl rfl rfl ?_ | refine s_gnoQ rfl rfl rfl rfl rfl ?_ | ((first | refine s_splitQ_d rfl rfl (fun h => ?_) (fun h => ?_) | refine s_splitQ_n rfl rfl (fun h => ?_) (fun h => ?_)) <;> (try (first | contradiction | (exfalso; omega)))) | refine s_splitQ_nb rfl rfl (fun h => ?_) (fun h => ?_) | refine s_splitQ rfl rfl (fun h => ?_) (fun h => ?_))) | refine lQ_then ?_ | refine lQ_ends ?_ | (refine kE ?_; (first | refine e_then_r ?_ | refine e_block_r ?_ | refine e_then_n ?_ | refine e_then_x ?_ | refine e_block_n ?_ | refine e_block_x ?_ | refine e_block_y rfl ?_)) | refine l_ends ?_)
  all_goals (refine kE ?_; refine s_leaveSF rfl rfl rfl fwA (fun w hw => ?_))
  all_goals exact ⟨_, _, rfl, ⟨_, rfl, hv'⟩, hw.toFresh (H := H') gpA⟩
theorem imgs_each {l : List DImg} {m : Nat} (h : imgsLen l ≤ m) {i : Nat} (hi : i < l.length) : (l.getD i DImg.zero).data.length ≤ m := by
  have := le_sumTo (fun i => (l.getD i DImg.zero).data.length) hi; unfold imgsLen at h; omega
theorem regs_each {l : List (List DRect)} {m : Nat} (h : regsLen l ≤ m) {i : Nat} (hi : i < l.length) : (l.getD i []).length ≤ m := by
  have := le_sumTo (fun i => (l.getD i []).length) hi; unfold regsLen at h; omega
theorem chain_parts {c : DChain} {m : Nat} (h : chainLen c ≤ m) : imgsLen c.bufs ≤ m ∧ c.ages.length ≤ m ∧ regsLen c.dams ≤ m ∧ surfsLen c.scene.ss ≤ m ∧ c.bufs.length ≤ m ∧ c.dams.length ≤ m := by
  have h3 : c.bufs.length ≤ imgsLen c.bufs := by unfold imgsLen; omega
  have h4 : c.dams.length ≤ regsLen c.dams := by unfold regsLen; omega
  unfold chainLen at h; omega
theorem ones7 {a b c d : Value} {W H B : Int} (ha : a.oneCell' = true) (hb : b.oneCell' = true) (hc : c.oneCell' = true) (hd : d.oneCell' = true) : oneCells [a, b, c, .int .i64 W, .int .i64 H, .int .i64 B, d] = true :=
  ones_cons ha (ones_cons hb (ones_cons hc (ones_cons rfl (ones_cons rfl (ones_cons rfl (ones_cons hd rfl))))))
set_option maxRecDepth 100000 in
set_option maxHeartbeats 8000000 in
theorem c_copyChain (c : DChain) (vb va vd vs : Value) (W : World) (hc : RCh W c vb va vd vs) (hl : chainLen c ≤ 2000000) : SYieldsF Tryz.prog 48 #[vChain c vb va vd vs] (fun u H => OChain u c H) W := by
  obtain ⟨r1, r2, r3, r4⟩ := hc
  obtain ⟨db, r1⟩ := r1
  obtain ⟨dd, r3⟩ := r3
  have f1 := r1.form
  obtain ⟨b1, b2, rfl⟩ := f1
  have f2 := r2.form
  obtain ⟨a1, a2, rfl⟩ := f2
  have f3 := r3.form
  obtain ⟨d1, d2, rfl⟩ := f3
  have f4 := r4.form
  obtain ⟨s1, s2, rfl⟩ := f4
  have hp := chain_parts hl
  have htb : ∀ j, (c.bufs.take j).length ≤ c.bufs.length := fun j => by rw [List.length_take]; omega
  have htd : ∀ j, (c.dams.take j).length ≤ c.dams.length := fun j => by rw [List.length_take]; omega
  have hib := fun (i : Nat) (hi : i < c.bufs.length) => imgs_each hp.1 hi
  have hid := fun (i : Nat) (hi : i < c.dams.length) => regs_each hp.2.2.1 hi
  (first | apply SYields.mk | apply SYieldsF.mk | skip); refine s_enter Tryz.func48 rfl Tryz.ntmps48 rfl ?_
  repeat' (first | exact rfl | (apply kO; (first | exact ov_pure rfl | (apply kOBin; (first | exact aBin)) | (apply kOCall; (first | (apply kCallB; (first | exact aBlt | exact (ov_lenR (fun w hw => r1.row.keep (hw.cells rfl)) rfl) | exact (ov_lenR (fun w hw => r3.row.keep (hw.cells rfl)) rfl) | exact aLenR)))) | (apply kOLoad; (first | exact (ov_ldRZ (fun w hw => r1.row.keep (hw.cells rfl)) rfl rfl (by omega) rfl) | exact (ov_ldRZ (fun w hw => r3.row.keep (hw.cells rfl)) rfl rfl (by omega) rfl) | exact aLdF | exact aLdR)) | exact ov_fieldAddr rfl | (apply kOIdx; (first | exact (ov_idxR (fun w hw => r1.row.keep (hw.cells rfl)) rfl rfl (by omega)) | exact (ov_idxR (fun w hw => r3.row.keep (hw.cells rfl)) rfl rfl (by omega)) | exact aIdx)) | exact aRest | exact aNew | exact (ov_field1 (ft := 31) rfl rfl rfl rfl))) | (refine kN ?_; (first | (refine kCall ?_; (first | (refine kWFn 108 ?_; (refine s_callF (fun u H => OInts 3 u c.ages H) rfl (fun w hw => c_clone _ c.ages w (r2.keep (hw.cells rfl)) (by omega)) rfl (fun u Ha hua => ?_); have f1 := hua.form; obtain ⟨_, _, rfl⟩ := f1)) | (refine kWFn 37 ?_; (refine s_callF (fun u H => OScene u c.scene H) rfl (fun w hw => c_copyScene c.scene _ w (r4.keep (hw.cells rfl)) (by omega)) rfl (fun u Hs hus => ?_); obtain ⟨v6, rfl, hus⟩ := hus; have f1 := hus.form; obtain ⟨_, _, rfl⟩ := f1)) | (refine kWFn 109 ?_; (refine s_callF (fun u H => OImg u (c.bufs.getD j.1 DImg.zero) H) rfl (fun w hw => c_copyImage (c.bufs.getD j.1 DImg.zero) _ w (RInts.keep (r1.rd _ (by omega)) (hw.cells rfl)) (by have := hib j.1 (by omega); omega)) rfl (fun u H3 hu3 => ?_); obtain ⟨d', rfl, hu3⟩ := hu3; have f1 := hu3.form; obtain ⟨_, _, rfl⟩ := f1)) | (refine kWFn 110 ?_; (refine s_callF (fun u H => OReg u (c.dams.getD k.1 []) H) rfl (fun w hw => c_copyReg _ (c.dams.getD k.1 []) w (eReg.keep (r3.rd _ (by omega)) (hw.cells rfl)) (by have := hid k.1 (by omega); omega)) rfl (fun u H3 hu3 => ?_); obtain ⟨d', rfl, hu3⟩ := hu3; have f1 := hu3.form; obtain ⟨_, _, rfl⟩ := f1)) | (refine kWApp ?_; (refine s_appendE _ _ _ (el := eImg) (a := c.bufs.getD j.1 DImg.zero) rfl rfl (by assumption) gpA gpA (show eImg.own _ _ _ from hu3) gpA rfl rfl (eImg_ones (OInts.one (by assumption))) (by rw [scells_eq]; rfl) (by decide) (by have := htb j.1; omega) (by decide) rfl (fun v4 H4 hv4 => ?_); have f1 := hv4.form; obtain ⟨ua, uc, rfl⟩ := f1)) | (refine kWApp ?_; (refine s_appendE _ _ _ (el := eReg) (a := c.dams.getD k.1 []) rfl rfl (by assumption) gpA gpA (show eReg.own _ _ _ from hu3) gpA rfl rfl (eReg_ones (OVs.one (by assumption))) (by rw [scells_eq]; rfl) (by decide) (by have := htd k.1; omega) (by decide) rfl (fun v4 H4 hv4 => ?_); have f1 := hv4.form; obtain ⟨ua, uc, rfl⟩ := f1)) | apply s_step)) | (refine kStore ?_; (first | (refine s_storeS _ rfl rfl gpA rfl (eImg_ones (RInts.one (r1.rd _ (by omega)))) (by rfl) ?_) | (refine s_storeS _ rfl rfl gpA rfl (eReg_ones (RRects.one (r3.rd _ (by omega)))) (by rfl) ?_) | (refine s_storeS _ rfl rfl gpA rfl (ones7 rfl (OInts.one (by assumption)) rfl (OElems.one (by assumption))) (by rfl) ?_) | (refine s_storeS _ rfl rfl gpA rfl (ones7 (OElems.one hj2) (OInts.one hq.1) (OElems.one hk2) (OElems.one hq.2)) (by rfl) ?_) | refine s_store1 _ rfl rfl gpA rfl (by rfl) ?_ | refine s_storeS _ rfl rfl gpA rfl rfl (by rfl) ?_ | refine s_storeS _ rfl rfl gpA rfl (ones_img oiA) (by rfl) ?_)) | refine s_boxS rfl rfl (fun b hb => ?_) | refine s_allocS rfl (fun b hb => ?_) | refine s_box1 rfl rfl rfl (fun b hb => ?_) | refine s_alloc1 rfl rfl (fun b hb => ?_) | refine s_buildSlice0 rfl (fun b hb => ?_) | refine s_buildSlice rfl rfl rfl rfl rfl (fun b hb => ?_) | apply s_step)) | (refine kG ?_; (first | refine s_gyes rfl rfl rfl ?_ | refine s_gno rfl rfl rfl rfl rfl ?_ | ((first | refine s_split_d rfl rfl (fun h => ?_) (fun h => ?_) | refine s_split_n rfl rfl (fun h => ?_) (fun h => ?_)) <;> (try (first | contradiction | (exfalso; omega)))) | refine s_split_nb rfl rfl (fun h => ?_) (fun h => ?_) | refine s_split rfl rfl (fun h => ?_) (fun h => ?_))) | (refine kS ?_; (first | refine h_exec rfl ?_ | refine h_take_nil rfl rfl rfl ?_ | refine h_take_pick rfl rfl rfl ?_ | refine h_nil ?_ | refine h_alt ?_ ?_ | apply h_take)) | (refine kBack ?_; (first | refine h_back_last rfl ?_ | refine h_backN rfl subA ?_)) | refine l_then ?_ | (refine kC ?_; (first | (refine kReg 1 ?_; refine c_regionSN (SPlan.take 0 (SPlan.take 1 (SPlan.take 3 (SPlan.take 4 ((SPlan.run 2 ((SPlan.run 5 (SPlan.take 6 (SPlan.run 7 (SPlan.run 8 SPlan.done)))).alt (SPlan.run 7 (SPlan.run 5 (SPlan.take 6 (SPlan.run 8 SPlan.done)))))).alt (SPlan.run 7 (SPlan.run 2 (SPlan.run 5 (SPlan.take 6 (SPlan.run 8 SPlan.done)))))))))) (some 8) rfl rfl (by decide +kernel) ?_) | (refine kReg 1 ?_; refine c_regionSN (SPlan.take 0 (SPlan.take 1 (SPlan.take 3 (SPlan.take 4 ((SPlan.run 2 ((SPlan.run 5 (SPlan.take 6 (SPlan.run 7 (SPlan.run 8 SPlan.done)))).alt (SPlan.run 7 (SPlan.run 5 (SPlan.take 6 (SPlan.run 8 SPlan.done)))))).alt (SPlan.run 7 (SPlan.run 2 (SPlan.run 5 (SPlan.take 6 (SPlan.run 8 SPlan.done)))))))))) none rfl rfl (by decide +kernel) ?_) | (refine kReg 5 ?_; refine c_regionSubN (SPlan.take 0 (SPlan.take 1 (SPlan.take 2 (SPlan.run 3 (SPlan.run 4 (SPlan.run 5 (SPlan.take 6 (SPlan.run 7 SPlan.done)))))))) (some 7) [true, true, false, true, true, true, true] rfl rfl rfl (by decide +kernel) ?_) | (refine kReg 10 ?_; refine c_regionSubN (SPlan.take 0 (SPlan.take 1 (SPlan.take 2 (SPlan.run 3 (SPlan.run 4 (SPlan.run 5 (SPlan.take 6 (SPlan.run 7 SPlan.done)))))))) (some 7) [true, true, false, true, true, true, true, true] rfl rfl rfl (by decide +kernel) ?_) | (refine kSeqR 1 ?_; refine c_join (ι := Nat × (Value × SPiece) × (Value × SPiece)) [true, true] (fun q => OInts 3 q.2.1.1 c.ages q.2.1.2 ∧ OElems eSurf 126 q.2.2.1 c.scene.ss q.2.2.2) (fun q => [(3, .pointer (some ⟨q.1, 0, none⟩))]) (fun q => [[(q.1, srow [.slice none 0 0, q.2.1.1, .slice none 0 0, .int .i64 c.scene.W, .int .i64 c.scene.H, .int .i64 c.scene.Back, q.2.2.1] 34)], q.2.1.2, q.2.2.2]) rfl rfl (fun _ => rfl) (fun _ => rfl) ?_ (fun q hq => ?_)) | (refine kLoopR 3 ?_; refine c_loopV (ι := Nat × Value × SPiece) (fun j => j.1 ≤ c.bufs.length ∧ OElems eImg 49 j.2.1 (c.bufs.take j.1) j.2.2) (fun j => [(18, .int .i64 (j.1 : Int))]) (fun j => [[(_, srow [j.2.1, q.2.1.1, .slice none 0 0, .int .i64 c.scene.W, .int .i64 c.scene.H, .int .i64 c.scene.Back, q.2.2.1] 34)], j.2.2, q.2.1.2, q.2.2.2, _, _]) (fun j => c.bufs.length - j.1) (0, _, []) ⟨by dsimp only; omega, by dsimp only; rw [List.take_zero]; exact OElems.nil⟩ rfl (fun _ => rfl) ⟨rfl, trivial⟩ (fun w hw => hw.nil1) (fun j hj => ?_); obtain ⟨hj1, hj2⟩ := hj; have f2 := hj2.form; obtain ⟨wa, wc, ej⟩ := f2) | (refine kLoopR 8 ?_; refine c_loopV (ι := Nat × Value × SPiece) (fun k => k.1 ≤ c.dams.length ∧ OElems eReg 43 k.2.1 (c.dams.take k.1) k.2.2) (fun k => [(33, .int .i64 (k.1 : Int))]) (fun k => [[(_, srow [j.2.1, q.2.1.1, k.2.1, .int .i64 c.scene.W, .int .i64 c.scene.H, .int .i64 c.scene.Back, q.2.2.1] 34)], k.2.2, j.2.2, q.2.1.2, q.2.2.2, _, _]) (fun k => c.dams.length - k.1) (0, _, []) ⟨by dsimp only; omega, by dsimp only; rw [List.take_zero]; exact OElems.nil⟩ rfl (fun _ => rfl) ⟨rfl, trivial⟩ (fun w hw => hw.nil1) (fun k hk => ?_); obtain ⟨hk1, hk2⟩ := hk; have f2 := hk2.form; obtain ⟨wa, wc, ek⟩ := f2) | refine c_seq ?_ | refine c_regionN rfl ?_ | refine c_ret ?_ | (refine kCond ?_; (first | refine c_cond_t rfl ?_ | refine c_cond_f rfl ?_ | ((first | refine c_cond_d rfl (fun h => ?_) (fun h => ?_) | refine c_cond_n rfl (fun h => ?_) (fun h => ?_)) <;> (try (first | contradiction | (exfalso; omega)))) | refine c_cond_nb rfl (fun h => ?_) (fun h => ?_) | refine c_cond rfl (fun h => ?_) (fun h => ?_))) | refine c_block ?_ | refine c_skip ?_ | refine c_exit ?_ | refine c_regionQN rfl rfl (by decide +kernel) ?_)) | apply s_stepQ | (refine kQG ?_; (first | refine s_gyesQ rfl rfl rfl ?_ | refine s_gnoQ rfl rfl rfl rfl rfl ?_ | ((first | refine s_splitQ_d rfl rfl (fun h => ?_) (fun h => ?_) | refine s_splitQ_n rfl rfl (fun h => ?_) (fun h => ?_)) <;> (try (first | contradiction | (exfalso; omega)))) | refine s_splitQ_nb rfl rfl (fun h => ?_) (fun h => ?_) | refine s_splitQ rfl rfl (fun h => ?_) (fun h => ?_))) | refine lQ_then ?_ | refine lQ_ends ?_ | (refine kE ?_; (first | (exact e_joinP (b, (_, Ha), (_, Hs)) ⟨hua, hus⟩ ⟨rfl, (by repeat' first | exact trivial | refine ⟨rfl, ?_⟩)⟩ (by (repeat' first | exact Picks.nil | exact gp_hd | apply gp_tl | apply Picks.cons); done) (by rfl)) | refine e_then_r ?_ | refine e_block_r ?_ | refine e_then_n ?_ | refine e_then_x ?_ | refine e_block_n ?_ | refine e_block_x ?_ | refine e_block_y rfl ?_)) | refine l_ends ?_)
  · exact e_round (j.1 + 1, _, H4) ⟨by dsimp only; omega, by dsimp only; rw [take_getD DImg.zero (by omega)]; exact hv4⟩ ⟨slook_to rfl (vint_to (by push_cast; rfl)), (by repeat' first | exact trivial | refine ⟨rfl, ?_⟩)⟩ (fun w hw => hw.picks (by (repeat' first | exact Picks.nil | exact gp_hd | apply gp_tl | apply Picks.cons); done) (by rfl)) (by dsimp only; omega)
  · exact e_round (k.1 + 1, _, H4) ⟨by dsimp only; omega, by dsimp only; rw [take_getD [] (by omega)]; exact hv4⟩ ⟨slook_to rfl (vint_to (by push_cast; rfl)), (by repeat' first | exact trivial | refine ⟨rfl, ?_⟩)⟩ (fun w hw => hw.picks (by (repeat' first | exact Picks.nil | exact gp_hd | apply gp_tl | apply Picks.cons); done) (by rfl)) (by dsimp only; omega)
  · rw [List.take_of_length_le (by omega)] at hj2 hk2
    exact s_leaveSF rfl rfl rfl fwA (fun w hw => ⟨_, _, rfl, ⟨_, _, _, _, j.2.2, q.2.1.2, k.2.2, q.2.2.2, rfl, hj2, hq.1, hk2, hq.2, rfl⟩, (hw.picks (L' := [q.2.2.2, k.2.2, q.2.1.2, j.2.2]) (by (repeat' first | exact Picks.nil | exact gp_hd | apply gp_tl | apply Picks.cons); done) (by rfl)).toFreshL (List.Sublist.refl _)⟩)
end Go.Proofs.YtakijgpoaeggnaaGreat
