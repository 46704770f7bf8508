/-
  Texts that the law stands on, part 3: EB, EF, H2, H5, KY, K13, L1, L2, K12, M6, K14, K15.
-/
import Derived.Laws.StructEq
import Derived.Test.YtakijgpoaeggnaaChainOkB2
/-
  Contracts: scenes that the laws mark, and what they hold then.
-/
set_option linter.unusedVariables false
namespace Go.Proofs.Ytakijgpoaeggnaa
open Go Sx
attribute [local irreducible] Exit.then Exit.inBlock bodyPost
/-- the mark that struct number i begins with -/
def kAt (l : List DSurf) (k : Int) (i : Nat) : Int := k + 10 * (i : Int) + (sumTo (fun i => (l.getD i default).buf.data.length) i : Nat)
theorem kAt_zero (l : List DSurf) (k : Int) : kAt l k 0 = k := by simp [kAt, sumTo]
theorem kAt_succ (l : List DSurf) (k : Int) (i : Nat) : kAt l k (i + 1) = kAt l k i + 10 + ((l.getD i default).buf.data.length : Nat) := by
  have : sumTo (fun i => (l.getD i default).buf.data.length) (i + 1) = sumTo (fun i => (l.getD i default).buf.data.length) i + (l.getD i default).buf.data.length := rfl
  unfold kAt; rw [this]; push_cast; omega
theorem kAt_end (l : List DSurf) (k : Int) : kAt l k l.length = k + 9 * l.length + surfsLen l := by
  unfold kAt surfsLen; push_cast; omega
theorem kAt_bd {l : List DSurf} {k : Int} {i : Nat} (h : i ≤ l.length) : k ≤ kAt l k i ∧ kAt l k i ≤ kAt l k l.length := by
  have := sumTo_mono (fun i => (l.getD i default).buf.data.length) h
  unfold kAt; omega
def markSurf (s : DSurf) (k : Int) : DSurf := ⟨k, k + 1, k + 2, k + 3, k + 4, k + 5, k + 6, decide ((k + 7) % 3 = 0), ⟨k + 8, k + 9, iota (k + 10) s.buf.data.length⟩⟩
def markSurfs (l : List DSurf) (k : Int) : List DSurf := (List.range l.length).map (fun i => markSurf (l.getD i default) (kAt l k i))
theorem markSurfs_length (l : List DSurf) (k : Int) : (markSurfs l k).length = l.length := by simp [markSurfs]
theorem markSurfs_get (l : List DSurf) (k : Int) {i : Nat} (h : i < l.length) : (markSurfs l k).getD i default = markSurf (l.getD i default) (kAt l k i) := by
  simp [markSurfs, List.getD_eq_getElem?_getD, h]
theorem markSurfs_take (l : List DSurf) (k : Int) {i : Nat} (h : i < l.length) : (markSurfs l k).take (i + 1) = (markSurfs l k).take i ++ [markSurf (l.getD i default) (kAt l k i)] := by
  rw [take_getD default (by rw [markSurfs_length]; exact h), markSurfs_get l k h]
theorem set10 {P R : List Value} {a0 a1 a2 a3 a4 a5 a6 a7 a8 a9 b0 b1 b2 b3 b4 b5 b6 b7 b8 b9 : Value} {p : Nat} (hp : P.length = p) :
    (((((((((((P ++ (a0 :: a1 :: a2 :: a3 :: a4 :: a5 :: a6 :: a7 :: a8 :: a9 :: R)).set p b0).set (p + 1) b1).set (p + 2) b2).set (p + 3) b3).set (p + 4) b4).set (p + 5) b5).set (p + 6) b6).set (p + 7) b7).set (p + 8) b8).set (p + 9) b9) = P ++ (b0 :: b1 :: b2 :: b3 :: b4 :: b5 :: b6 :: b7 :: b8 :: b9 :: R) := by
  subst hp
  rw [List.set_append_right _ _ (Nat.le_refl _), List.set_append_right _ _ (by omega), List.set_append_right _ _ (by omega), List.set_append_right _ _ (by omega), List.set_append_right _ _ (by omega), List.set_append_right _ _ (by omega), List.set_append_right _ _ (by omega), List.set_append_right _ _ (by omega), List.set_append_right _ _ (by omega), List.set_append_right _ _ (by omega)]
  rw [Nat.sub_self, show P.length + 1 - P.length = 1 by omega, show P.length + 2 - P.length = 2 by omega, show P.length + 3 - P.length = 3 by omega, show P.length + 4 - P.length = 4 by omega, show P.length + 5 - P.length = 5 by omega, show P.length + 6 - P.length = 6 by omega, show P.length + 7 - P.length = 7 by omega, show P.length + 8 - P.length = 8 by omega, show P.length + 9 - P.length = 9 by omega]
  rfl
/-- this cell stays -/
def keepsD (o : Nat) (d : Value) (cells : List Value) : Prop := cells[o]? = some d
theorem keepsD_set {o q : Nat} {d v : Value} {cells : List Value} (h : keepsD o d cells) (hq : q ≠ o) : keepsD o d (cells.set q v) := by
  unfold keepsD; rw [List.getElem?_set_ne hq]; exact h
theorem keepsD_get {o q : Nat} {d : Value} {cells : List Value} (h : keepsD o d cells) (e : q = o) : snth cells q = some d := by rw [snth_eq, e]; exact h
abbrev dT : ETri DSurf := (default, undef, [])
theorem drop_getT {T : List (ETri DSurf)} {j : Nat} (h : j < T.length) : T.drop j = T.getD j dT :: T.drop (j + 1) := by
  rw [List.drop_eq_getElem_cons h, List.getD_eq_getElem?_getD, List.getElem?_eq_getElem h]; rfl
theorem getT_mem {T : List (ETri DSurf)} {j : Nat} (h : j < T.length) : T.getD j dT ∈ T := by
  rw [List.getD_eq_getElem?_getD, List.getElem?_eq_getElem h]; exact List.getElem_mem h
theorem getT_fst {T : List (ETri DSurf)} {j : Nat} : (T.getD j dT).1 = (T.map (·.1)).getD j default := by
  rw [List.getD_eq_getElem?_getD, List.getD_eq_getElem?_getD, List.getElem?_map]
  cases T[j]? <;> rfl
theorem surf_cells_at {A : List Value} {R : List Value} {s : DSurf} {d : Value} {p : Nat} (hp : A.length = p) : keepsD (p + 10) d (A ++ (eSurf.cells s d ++ R)) := by
  unfold keepsD
  rw [List.getElem?_append_right (by omega), show p + 10 - A.length = 10 by omega]; rfl
set_option maxHeartbeats 8000000 in
theorem c_markSurfs (v : Value) (l : List DSurf) (H : SPiece) (k : Int) (W : World) (hv : OElems eSurf 62 v l H) (hH : Holds W H) (hn : H.keys.Nodup) (hk : 0 ≤ k ∧ k ≤ 1000000000) (hl : l.length ≤ 1048576 ∧ surfsLen l ≤ 1048576) :
    SYieldsG Try.prog 132 #[v, .int .i64 k] H (fun u H' F => u = .int .i64 (kAt l k l.length) ∧ OElems eSurf 62 v (markSurfs l k) H' ∧ F = []) W := by
  obtain ⟨T, H0, G, hT, h1, h2, rfl⟩ := hv.tri
  have hTl : T.length = l.length := by rw [← hT, List.length_map]
  have hke := kAt_end l k
  have hkb := fun j (h : j ≤ l.length) => kAt_bd (k := k) h
  have hks := kAt_succ l k
  have hcl := fun T' => tcells_length eSurf T'
  rcases OVec.inv h1 with ⟨rfl, hn0, rfl⟩ | ⟨b0, cap, r, rfl, rfl, hcap, hnc, hcm⟩
  · have hl0 : l = [] := List.eq_nil_of_length_eq_zero (by omega)
    subst hl0
    refine SYieldsG.mk (s_enterM Try.func132 rfl Try.ntmps132 rfl hH hn ?_)
    repeat' (first | exact rfl | (apply kO; (first | exact ov_pure rfl | (apply kOBin; (first | exact aBin)) | (apply kOCall; (first | (apply kCallB; (first | exact aBlt | exact aLenR)))) | (apply kOLoad; (first | exact aLdF | exact aLdR)) | exact ov_fieldAddr rfl | (apply kOIdx; (first | exact aIdx)) | exact aRest | exact aNew | exact (ov_field1 (ft := 37) rfl rfl rfl rfl))) | (refine kN ?_; (first | (refine kStore ?_; (first | refine s_store1 _ rfl rfl gpA rfl (by rfl) ?_ | refine s_storeS _ rfl rfl gpA rfl rfl (by rfl) ?_ | refine s_storeS _ rfl rfl gpA rfl (ones_img oiA) (by rfl) ?_)) | refine s_boxS rfl rfl (fun b hb => ?_) | refine s_allocS rfl (fun b hb => ?_) | refine s_box1 rfl rfl rfl (fun b hb => ?_) | refine s_alloc1 rfl rfl (fun b hb => ?_) | refine s_buildSlice0 rfl (fun b hb => ?_) | refine s_buildSlice rfl rfl rfl rfl rfl (fun b hb => ?_) | apply s_step)) | (refine kG ?_; (first | refine s_gyes rfl rfl rfl ?_ | refine s_gno rfl rfl rfl rfl rfl ?_ | ((first | refine s_split_d rfl rfl (fun h => ?_) (fun h => ?_) | refine s_split_n rfl rfl (fun h => ?_) (fun h => ?_)) <;> (try (first | contradiction | (exfalso; omega)))) | refine s_split_nb rfl rfl (fun h => ?_) (fun h => ?_) | refine s_split rfl rfl (fun h => ?_) (fun h => ?_))) | refine l_then ?_ | (refine kC ?_; (first | (refine c_loopV (ι := Nat) (fun j => j = 0) (fun j => [(5, .int .i64 (j : Int)), (1, .int .i64 k)]) (fun j => [_]) (fun j => 0) 0 rfl rfl (fun _ => rfl) ⟨rfl, rfl, trivial⟩ (fun w hw => hw) (fun j hj => ?_)) | refine c_seq ?_ | refine c_regionN rfl ?_ | refine c_ret ?_ | (refine kCond ?_; (first | refine c_cond_t rfl ?_ | refine c_cond_f rfl ?_ | ((first | refine c_cond_d rfl (fun h => ?_) (fun h => ?_) | refine c_cond_n rfl (fun h => ?_) (fun h => ?_)) <;> (try (first | contradiction | (exfalso; omega)))) | refine c_cond_nb rfl (fun h => ?_) (fun h => ?_) | refine c_cond rfl (fun h => ?_) (fun h => ?_))) | refine c_block ?_ | refine c_skip ?_ | refine c_exit ?_ | refine c_regionQN rfl rfl (by decide +kernel) ?_)) | apply s_stepQ | (refine kQG ?_; (first | refine s_gyesQ rfl rfl rfl ?_ | refine s_gnoQ rfl rfl rfl rfl rfl ?_ | ((first | refine s_splitQ_d rfl rfl (fun h => ?_) (fun h => ?_) | refine s_splitQ_n rfl rfl (fun h => ?_) (fun h => ?_)) <;> (try (first | contradiction | (exfalso; omega)))) | refine s_splitQ_nb rfl rfl (fun h => ?_) (fun h => ?_) | refine s_splitQ rfl rfl (fun h => ?_) (fun h => ?_))) | refine lQ_then ?_ | refine lQ_ends ?_ | (refine kE ?_; (first | refine e_then_r ?_ | refine e_block_r ?_ | refine e_then_n ?_ | refine e_then_x ?_ | refine e_block_n ?_ | refine e_block_x ?_ | refine e_block_y rfl ?_)) | refine l_ends ?_)
    all_goals
      exact s_leave1 rfl rfl (fun w hw => ⟨_, [], [], rfl, ⟨by rw [hke]; exact vint_to (by simp [surfsLen, sumTo]), OElems.nil, rfl⟩, hw.gone⟩)
  · rw [hTl] at hnc ⊢
    refine SYieldsG.mk (s_enterM Try.func132 rfl Try.ntmps132 rfl hH hn ?_)
    refine c_regroup (L' := [[(b0, srow (tcells eSurf ([] ++ T.drop 0) ++ r) 62)], tpiece ([] : List (ETri DSurf)), tpiece (T.drop 0), G]) (fun w hw => hw.perm (by rw [List.drop_zero, List.nil_append]; simp [tpiece])) ?_
    repeat' (first | exact rfl | (apply kO; (first | exact ov_pure rfl | (apply kOBin; (first | exact aBin | exact (ov_add rfl rfl (by have q1 := hkb j.1 (by omega); have q2 := hkb (j.1 + 1) (by omega); have q3 := hks j.1; omega)) | exact (ov_rem rfl rfl (by have q1 := hkb j.1 (by omega); omega)))) | (apply kOCall; (first | (apply kCallB; (first | exact aBlt | exact aLenR)))) | (apply kOLoad; (first | exact (ov_load rfl rfl (getL_flat (i := 0) rfl (List.mem_singleton.2 rfl)) (keepsD_get (by repeat' first | exact hkeep (by omega) | apply keepsD_set | omega) (by omega))) | exact aLdF | exact aLdR)) | exact ov_fieldAddr rfl | (apply kOIdx; (first | exact (ov_indexAddr rfl rfl (by omega)) | exact aIdx)) | exact aRest | exact aNew | exact (ov_field1 (ft := 37) rfl rfl rfl rfl))) | (refine kN ?_; (first | (refine kCall ?_; (first | (refine kWFn 99 ?_; (refine w_split 2 (A := (T.getD j.1 dT).2.2) (B := tpiece (T.drop (j.1 + 1))) (by show some (tpiece (T.drop j.1)) = _; rw [drop_getT (by omega), tpiece_cons]) ?_; refine s_markI _ (l := (l.getD j.1 default).buf.data) rfl (show OInts 3 (T.getD j.1 dT).2.1 (l.getD j.1 default).buf.data (T.getD j.1 dT).2.2 from hown (by omega)) gpA (by have q1 := hkb j.1 (by omega); have q2 := hkb (j.1 + 1) (by omega); have q3 := hks j.1; omega) rfl (fun H' hu => ?_))) | apply s_step)) | (refine kStore ?_; (first | (refine s_setR 0 rfl rfl rfl rfl (by (try simp only [List.length_set]); omega) ?_) | refine s_store1 _ rfl rfl gpA rfl (by rfl) ?_ | refine s_storeS _ rfl rfl gpA rfl rfl (by rfl) ?_ | refine s_storeS _ rfl rfl gpA rfl (ones_img oiA) (by rfl) ?_)) | refine s_boxS rfl rfl (fun b hb => ?_) | refine s_allocS rfl (fun b hb => ?_) | refine s_box1 rfl rfl rfl (fun b hb => ?_) | refine s_alloc1 rfl rfl (fun b hb => ?_) | refine s_buildSlice0 rfl (fun b hb => ?_) | refine s_buildSlice rfl rfl rfl rfl rfl (fun b hb => ?_) | apply s_step)) | (refine kG ?_; (first | refine s_gyes rfl rfl rfl ?_ | refine s_gno rfl rfl rfl rfl rfl ?_ | ((first | refine s_split_d rfl rfl (fun h => ?_) (fun h => ?_) | refine s_split_n rfl rfl (fun h => ?_) (fun h => ?_)) <;> (try (first | contradiction | (exfalso; omega)))) | refine s_split_nb rfl rfl (fun h => ?_) (fun h => ?_) | refine s_split rfl rfl (fun h => ?_) (fun h => ?_))) | refine l_then ?_ | (refine kC ?_; (first | (refine c_loopV (ι := Nat × List (ETri DSurf)) (fun j => j.1 ≤ l.length ∧ j.2.map (·.1) = (markSurfs l k).take j.1 ∧ (∀ t ∈ j.2, eSurf.own t.2.1 t.1 t.2.2)) (fun j => [(5, .int .i64 (j.1 : Int)), (1, .int .i64 (kAt l k j.1))]) (fun j => [[(b0, srow (tcells eSurf (j.2 ++ T.drop j.1) ++ r) 62)], tpiece j.2, tpiece (T.drop j.1), G]) (fun j => l.length - j.1) (0, []) ⟨by dsimp only; omega, by simp, fun t ht => by cases ht⟩ rfl (fun _ => rfl) ⟨rfl, slook_to rfl (vint_to (kAt_zero l k).symm), trivial⟩ (fun w hw => hw) (fun j hj => ?_); obtain ⟨hj1, hj2, hj3⟩ := hj; have hjl : j.2.length = j.1 := (by have := congrArg List.length hj2; rw [List.length_map, List.length_take, markSurfs_length] at this; omega); have hlen : (tcells eSurf (j.2 ++ T.drop j.1) ++ r).length = cap * 11 := (by rw [List.length_append, hcl] at hcap ⊢; rw [List.length_append, List.length_drop, hjl, hTl]; rw [hTl] at hcap; have e1 : j.1 + (l.length - j.1) = l.length := (by omega); rw [e1]; exact hcap); have hown := (fun (h : j.1 < T.length) => (show OInts 3 (T.getD j.1 dT).2.1 (l.getD j.1 default).buf.data (T.getD j.1 dT).2.2 from by have e := h2 _ (getT_mem h); have e2 := getT_fst (T := T) (j := j.1); rw [hT] at e2; rw [← e2]; exact e)); have hkeep := (fun (h : j.1 < T.length) => (show keepsD (j.1 * 11 + 10) (T.getD j.1 dT).2.1 (tcells eSurf (j.2 ++ T.drop j.1) ++ r) from by rw [drop_getT h, tcells_append, tcells_cons, List.append_assoc, List.append_assoc]; exact surf_cells_at (by rw [hcl, hjl]; rfl)))) | refine c_seq ?_ | refine c_regionN rfl ?_ | refine c_ret ?_ | (refine kCond ?_; (first | refine c_cond_t rfl ?_ | refine c_cond_f rfl ?_ | ((first | refine c_cond_d rfl (fun h => ?_) (fun h => ?_) | refine c_cond_n rfl (fun h => ?_) (fun h => ?_)) <;> (try (first | contradiction | (exfalso; omega)))) | refine c_cond_nb rfl (fun h => ?_) (fun h => ?_) | refine c_cond rfl (fun h => ?_) (fun h => ?_))) | refine c_block ?_ | refine c_skip ?_ | refine c_exit ?_ | refine c_regionQN rfl rfl (by decide +kernel) ?_)) | apply s_stepQ | (refine kQG ?_; (first | refine s_gyesQ rfl rfl rfl ?_ | refine s_gnoQ rfl rfl rfl rfl rfl ?_ | ((first | refine s_splitQ_d rfl rfl (fun h => ?_) (fun h => ?_) | refine s_splitQ_n rfl rfl (fun h => ?_) (fun h => ?_)) <;> (try (first | contradiction | (exfalso; omega)))) | refine s_splitQ_nb rfl rfl (fun h => ?_) (fun h => ?_) | refine s_splitQ rfl rfl (fun h => ?_) (fun h => ?_))) | refine lQ_then ?_ | refine lQ_ends ?_ | (refine kE ?_; (first | refine e_then_r ?_ | refine e_block_r ?_ | refine e_then_n ?_ | refine e_then_x ?_ | refine e_block_n ?_ | refine e_block_x ?_ | refine e_block_y rfl ?_)) | refine l_ends ?_)
    · have hjT : j.1 < T.length := by omega
      have e1 : (T.getD j.1 dT).1 = l.getD j.1 default := by rw [getT_fst, hT]
      have ecat : tcells eSurf (j.2 ++ T.drop j.1) ++ r = tcells eSurf j.2 ++ (.int .i64 (l.getD j.1 default).Id :: .int .i64 (l.getD j.1 default).X :: .int .i64 (l.getD j.1 default).Y :: .int .i64 (l.getD j.1 default).W :: .int .i64 (l.getD j.1 default).H :: .int .i64 (l.getD j.1 default).Alpha :: .int .i64 (l.getD j.1 default).Orient :: .bool (l.getD j.1 default).Visible :: .int .i64 (l.getD j.1 default).buf.W :: .int .i64 (l.getD j.1 default).buf.H :: ((T.getD j.1 dT).2.1 :: (tcells eSurf (T.drop (j.1 + 1)) ++ r))) := by
        rw [drop_getT hjT, tcells_append, tcells_cons, List.append_assoc, List.append_assoc, e1]; rfl
      have hp : (tcells eSurf j.2).length = j.1 * 11 := by rw [hcl, hjl]; rfl
      refine e_round (j.1 + 1, j.2 ++ [(markSurf (l.getD j.1 default) (kAt l k j.1), (T.getD j.1 dT).2.1, H')]) ⟨by dsimp only; omega, by dsimp only; rw [List.map_append, hj2, markSurfs_take l k (by omega)]; rfl, fun t ht => ?_⟩ ⟨slook_to rfl (vint_to (by push_cast; rfl)), slook_to rfl (vint_to (by rw [hks]; omega)), (by repeat' first | exact trivial | refine ⟨rfl, ?_⟩)⟩ (fun w hw => ?_) (by dsimp only; omega)
      · rcases List.mem_append.1 ht with ht | ht
        · exact hj3 t ht
        · rw [List.mem_singleton] at ht
          subst ht
          rw [show kAt l k j.1 + 1 + 1 + 1 + 1 + 1 + 1 + 1 + 1 + 1 + 1 = kAt l k j.1 + 10 by omega] at hu
          exact hu
      · have hw2 : SSt _ _ [[], tpiece (T.drop (j.1 + 1)), [(b0, srow _ 62)], tpiece j.2, H', G] w := hw
        rw [ecat] at hw2
        simp only [Nat.zero_add, Int.toNat_natCast, Nat.add_zero] at hw2
        rw [set10 hp, Int.tmod_eq_emod_of_nonneg (show 0 ≤ kAt l k j.1 + 1 + 1 + 1 + 1 + 1 + 1 + 1 by have := hkb j.1 hj1; omega)] at hw2
        have ecat2 : tcells eSurf ((j.2 ++ [(markSurf (l.getD j.1 default) (kAt l k j.1), (T.getD j.1 dT).2.1, H')]) ++ T.drop (j.1 + 1)) ++ r = tcells eSurf j.2 ++ (.int .i64 (kAt l k j.1) :: .int .i64 (kAt l k j.1 + 1) :: .int .i64 (kAt l k j.1 + 1 + 1) :: .int .i64 (kAt l k j.1 + 1 + 1 + 1) :: .int .i64 (kAt l k j.1 + 1 + 1 + 1 + 1) :: .int .i64 (kAt l k j.1 + 1 + 1 + 1 + 1 + 1) :: .int .i64 (kAt l k j.1 + 1 + 1 + 1 + 1 + 1 + 1) :: .bool (decide ((kAt l k j.1 + 1 + 1 + 1 + 1 + 1 + 1 + 1) % 3 = 0)) :: .int .i64 (kAt l k j.1 + 1 + 1 + 1 + 1 + 1 + 1 + 1 + 1) :: .int .i64 (kAt l k j.1 + 1 + 1 + 1 + 1 + 1 + 1 + 1 + 1 + 1) :: ((T.getD j.1 dT).2.1 :: (tcells eSurf (T.drop (j.1 + 1)) ++ r))) := by
          rw [tcells_append, tcells_append, tcells_one, List.append_assoc, List.append_assoc]
          simp only [Int.add_assoc]
          rfl
        dsimp only
        rw [ecat2, tpiece_append, tpiece_one]
        refine hw2.perm ?_
        simp only [List.flatten_cons, List.flatten_nil, List.append_nil, List.nil_append]
        refine (List.perm_append_comm_assoc ..).trans (List.Perm.append_left _ ?_)
        refine (List.perm_append_comm_assoc ..).trans ?_
        rw [List.append_assoc]
        refine List.Perm.append_left _ ?_
        exact List.perm_append_comm_assoc ..
    · have e : j.1 = l.length := by omega
      have hd0 : T.drop j.1 = [] := List.drop_of_length_le (by omega)
      rw [e, List.take_of_length_le (by rw [markSurfs_length]; omega)] at hj2
      rw [hd0, List.append_nil] at hlen
      refine s_leave1 rfl rfl (fun w hw => ⟨_, [(b0, srow (tcells eSurf j.2 ++ r) 62)] ++ (tpiece j.2 ++ G), [], rfl, ⟨by rw [e], ?_, rfl⟩, ?_⟩)
      · have o := OElems.ofTri (e := eSurf) (U := 62) (T := j.2) (G := G) (OVec.blk (k := 11) (T := 62) b0 j.2.length cap (tcells eSurf j.2) r (hcl _) hlen (by omega) hcm) hj3
        rw [hj2, hjl, e] at o
        exact o
      · have hw2 : SSt _ _ [[(b0, srow (tcells eSurf (j.2 ++ T.drop j.1) ++ r) 62)], tpiece j.2, tpiece (T.drop j.1), G] w := hw
        rw [hd0, List.append_nil] at hw2
        refine hw2.perm ?_
        simp [tpiece]
end Go.Proofs.Ytakijgpoaeggnaa
/-
  Contracts: scenes whose marks are looked at again; edits that the laws mark.
-/
set_option linter.unusedVariables false
namespace Go.Proofs.Ytakijgpoaeggnaa
open Go Sx
attribute [local irreducible] Exit.then Exit.inBlock bodyPost
section
variable {P : Program} {n : Nat} {lo : SMut} {s : World} {E : SEnv} {L : SHeap} {d : Option Tmp} {ty : TypeId} {pos : String} {after : Array Edge} {g : Option (Nat × Bool)}
/-- a field of a field -/
theorem ov_ldRN {v : Value} {k m : Nat} {cells : Nat → List Value} {x : Operand} {t : TypeId} {td : TypeDesc} {u : Value} {i p q : Nat} [hu : SUnd P t td]
    (h : ∀ w, SSt lo s L w → RRow w v k m cells) (hx : sval E x = some (.pointer (some ⟨(baseOf v).1, (baseOf v).2 + i * k + p + q, none⟩))) (hr : sisRow td = false) (hi : i < m) (hc : snth (cells i) (p + q) = some u) :
    SOpV P n lo s E L ⟨d, .load t x, ty, pos, after, g⟩ u :=
  ov_ldR (j := p + q) h (by rw [hx, Nat.add_assoc]) hr hi hc
end
set_option maxHeartbeats 4000000 in
theorem c_heldSurfs (v : Value) (l : List DSurf) (k : Int) (W : World) (hv : RS eSurf W v (markSurfs l k)) (hk : 0 ≤ k ∧ k ≤ 1000000000) (hl : l.length ≤ 1048576 ∧ surfsLen l ≤ 1048576) :
    SYields Try.prog 185 #[v, .int .i64 k] (.int .i64 (k + 9 * l.length + surfsLen l)) W := by
  obtain ⟨ds, hv⟩ := hv
  have hlm := markSurfs_length l k
  have hke := kAt_end l k
  have hkb := fun j (h : j ≤ l.length) => kAt_bd (k := k) h
  have hks := kAt_succ l k
  have hlr := hv.row.len
  rw [hlm] at hlr
  have hrow : RRow W v 11 l.length (fun i => [.int .i64 (kAt l k i), .int .i64 (kAt l k i + 1), .int .i64 (kAt l k i + 2), .int .i64 (kAt l k i + 3), .int .i64 (kAt l k i + 4), .int .i64 (kAt l k i + 5), .int .i64 (kAt l k i + 6), .bool (decide ((kAt l k i + 7) % 3 = 0)), .int .i64 (kAt l k i + 8), .int .i64 (kAt l k i + 9), ds i]) :=
    RRow.congr hv.row hlm.symm (fun i hi => by rw [eSurf_dflt, markSurfs_get l k (by rw [hlm] at hi; exact hi)]; rfl)
  have hrd : ∀ i, i < l.length → RInts W (ds i) (iota (kAt l k i + 10) (l.getD i default).buf.data.length) := fun i hi => by
    have := hv.rd i (by rw [hlm]; exact hi)
    rw [eSurf_dflt, markSurfs_get l k hi] at this; exact this
  have hhm := fun (i : Nat) => heldI_mark (kAt l k i + 10) (l.getD i default).buf.data.length
  (first | apply SYields.mk | apply SYieldsF.mk | skip); refine s_enter Try.func185 rfl Try.ntmps185 rfl ?_
  repeat' (first | exact rfl | (apply kO; (first | exact ov_pure rfl | (apply kOBin; (first | exact aBin | exact (ov_add rfl rfl (by have q1 := hkb j (by omega); have q2 := hkb (j + 1) (by omega); have q3 := hks j; omega)) | exact (ov_rem rfl rfl (by have q1 := hkb j (by omega); omega)))) | (apply kOCall; (first | (apply kCallF; (first | exact (ov_call rfl (fun w hw => c_heldIntS _ _ _ w (RInts.keep (hrd j (by omega)) (hw.cells rfl)) (by rw [iota_length]; have q1 := hkb j (by omega); have q2 := hkb (j + 1) (by omega); have q3 := hks j; omega))))) | (apply kCallB; (first | exact aBlt | exact (ov_lenR (fun w hw => hrow.keep (hw.cells rfl)) rfl) | exact aLenR)))) | (apply kOLoad; (first | exact (ov_ldR0 (fun w hw => hrow.keep (hw.cells rfl)) rfl rfl (by omega) rfl) | exact (ov_ldR (fun w hw => hrow.keep (hw.cells rfl)) rfl rfl (by omega) rfl) | exact (ov_ldRN (fun w hw => hrow.keep (hw.cells rfl)) rfl rfl (by omega) rfl) | exact aLdF | exact aLdR)) | exact ov_fieldAddr rfl | (apply kOIdx; (first | exact (ov_idxR (fun w hw => hrow.keep (hw.cells rfl)) rfl rfl (by omega)) | exact aIdx)) | exact aRest | exact aNew | exact (ov_field1 (ft := 37) rfl rfl rfl rfl))) | (refine kN ?_; (first | (refine kStore ?_; (first | refine s_store1 _ rfl rfl gpA rfl (by rfl) ?_ | refine s_storeS _ rfl rfl gpA rfl rfl (by rfl) ?_ | refine s_storeS _ rfl rfl gpA rfl (ones_img oiA) (by rfl) ?_)) | refine s_boxS rfl rfl (fun b hb => ?_) | refine s_allocS rfl (fun b hb => ?_) | refine s_box1 rfl rfl rfl (fun b hb => ?_) | refine s_alloc1 rfl rfl (fun b hb => ?_) | refine s_buildSlice0 rfl (fun b hb => ?_) | refine s_buildSlice rfl rfl rfl rfl rfl (fun b hb => ?_) | apply s_step)) | (refine kG ?_; (first | refine s_gyes rfl rfl rfl ?_ | refine s_gno rfl rfl rfl rfl rfl ?_ | ((first | refine s_split_d rfl rfl (fun h => ?_) (fun h => ?_) | refine s_split_n rfl rfl (fun h => ?_) (fun h => ?_)) <;> (try (first | contradiction | (exfalso; omega)))) | refine s_split_nb rfl rfl (fun h => ?_) (fun h => ?_) | refine s_split rfl rfl (fun h => ?_) (fun h => ?_))) | refine l_then ?_ | (refine kC ?_; (first | (refine c_loopV (ι := Nat) (fun j => j ≤ l.length) (fun j => [(1, .int .i64 (kAt l k j)), (5, .int .i64 (j : Int))]) (fun _ => []) (fun j => l.length - j) 0 (by omega) rfl (fun _ => rfl) ⟨slook_to rfl (vint_to (kAt_zero l k).symm), rfl, trivial⟩ (fun w hw => hw) (fun j hj => ?_)) | refine c_seq ?_ | refine c_regionN rfl ?_ | refine c_ret ?_ | (refine kCond ?_; (first | refine c_cond_t rfl ?_ | refine c_cond_f rfl ?_ | ((first | refine c_cond_d rfl (fun h => ?_) (fun h => ?_) | refine c_cond_n rfl (fun h => ?_) (fun h => ?_)) <;> (try (first | contradiction | (exfalso; omega)))) | refine c_cond_nb rfl (fun h => ?_) (fun h => ?_) | refine c_cond rfl (fun h => ?_) (fun h => ?_))) | refine c_block ?_ | refine c_skip ?_ | refine c_exit ?_ | refine c_regionQN rfl rfl (by decide +kernel) ?_)) | apply s_stepQ | (refine kQG ?_; (first | refine s_gyesQ rfl rfl rfl ?_ | refine s_gnoQ rfl rfl rfl rfl rfl ?_ | ((first | refine s_splitQ_d rfl rfl (fun h => ?_) (fun h => ?_) | refine s_splitQ_n rfl rfl (fun h => ?_) (fun h => ?_)) <;> (try (first | contradiction | (exfalso; omega)))) | refine s_splitQ_nb rfl rfl (fun h => ?_) (fun h => ?_) | refine s_splitQ rfl rfl (fun h => ?_) (fun h => ?_))) | refine lQ_then ?_ | refine lQ_ends ?_ | (refine kE ?_; (first | refine e_then_r ?_ | refine e_block_r ?_ | refine e_then_n ?_ | refine e_then_x ?_ | refine e_block_n ?_ | refine e_block_x ?_ | refine e_block_y rfl ?_)) | refine l_ends ?_)
  all_goals try simp only [Int.toNat_natCast] at *
  all_goals try (exfalso; omega)
  · exfalso
    apply h
    rw [Int.tmod_eq_emod_of_nonneg (by have := hkb j hj; omega), show kAt l k j + 1 + 1 + 1 + 1 + 1 + 1 + 1 = kAt l k j + 7 by omega]
  · exfalso
    rw [show kAt l k j + 1 + 1 + 1 + 1 + 1 + 1 + 1 + 1 + 1 + 1 = kAt l k j + 10 by omega, hhm] at h
    have := hkb j hj
    omega
  · exact e_round (j + 1) (by omega) ⟨slook_to rfl (vint_to (by rw [show kAt l k j + 1 + 1 + 1 + 1 + 1 + 1 + 1 + 1 + 1 + 1 = kAt l k j + 10 by omega, hhm, hks])), rfl, (by repeat' first | exact trivial | refine ⟨rfl, ?_⟩)⟩ (fun w hw => hw) (by omega)
  · exact s_leave1 rfl rfl (fun w hw => ⟨ret_int (by rw [show j = l.length by omega, hke]), hw.below⟩)
theorem c_markSceneX (x : DScene) (v : Value) (H : SPiece) (k : Int) (W : World) (hv : OElems eSurf 62 v x.ss H) (hH : Holds W H) (hn : H.keys.Nodup) (hk : 0 ≤ k ∧ k ≤ 1000000000) (hl : x.ss.length ≤ 1048576 ∧ surfsLen x.ss ≤ 1048576) :
    SYieldsG Try.prog 61 #[vScene x v, .int .i64 k] H (fun u H' F => u = .int .i64 (k + 9 * x.ss.length + surfsLen x.ss) ∧ OElems eSurf 62 v (markSurfs x.ss k) H' ∧ F = []) W := by
  refine SYieldsG.mk (s_enterM Try.func61 rfl Try.ntmps61 rfl hH hn ?_)
  repeat' (first | exact rfl | (apply kO; (first | exact ov_pure rfl | (apply kOBin; (first | exact aBin)) | (apply kOCall; (first | (apply kCallB; (first | exact aBlt | exact aLenR)))) | (apply kOLoad; (first | exact aLdF | exact aLdR)) | exact ov_fieldAddr rfl | (apply kOIdx; (first | exact aIdx)) | exact aRest | exact aNew | exact (ov_field1 (ft := 37) rfl rfl rfl rfl))) | (refine kN ?_; (first | (refine kCall ?_; (first | (refine kWFn 132 ?_; (refine s_callG _ (H := H) (fun u H' F => u = .int .i64 (kAt x.ss k x.ss.length) ∧ OElems eSurf 62 v (markSurfs x.ss k) H' ∧ F = []) rfl gpA (fun w hw hh hn => c_markSurfs v x.ss H k w hv hh hn hk hl) rfl (fun u H' F hu => ?_); obtain ⟨rfl, hu, rfl⟩ := hu)) | apply s_step)) | (refine kStore ?_; (first | refine s_store1 _ rfl rfl gpA rfl (by rfl) ?_ | refine s_storeS _ rfl rfl gpA rfl rfl (by rfl) ?_ | refine s_storeS _ rfl rfl gpA rfl (ones_img oiA) (by rfl) ?_)) | refine s_boxS rfl rfl (fun b hb => ?_) | refine s_allocS rfl (fun b hb => ?_) | refine s_box1 rfl rfl rfl (fun b hb => ?_) | refine s_alloc1 rfl rfl (fun b hb => ?_) | refine s_buildSlice0 rfl (fun b hb => ?_) | refine s_buildSlice rfl rfl rfl rfl rfl (fun b hb => ?_) | apply s_step)) | (refine kG ?_; (first | refine s_gyes rfl rfl rfl ?_ | refine s_gno rfl rfl rfl rfl rfl ?_ | ((first | refine s_split_d rfl rfl (fun h => ?_) (fun h => ?_) | refine s_split_n rfl rfl (fun h => ?_) (fun h => ?_)) <;> (try (first | contradiction | (exfalso; omega)))) | refine s_split_nb rfl rfl (fun h => ?_) (fun h => ?_) | refine s_split rfl rfl (fun h => ?_) (fun h => ?_))) | refine l_then ?_ | (refine kC ?_; (first | refine c_seq ?_ | refine c_regionN rfl ?_ | refine c_ret ?_ | (refine kCond ?_; (first | refine c_cond_t rfl ?_ | refine c_cond_f rfl ?_ | ((first | refine c_cond_d rfl (fun h => ?_) (fun h => ?_) | refine c_cond_n rfl (fun h => ?_) (fun h => ?_)) <;> (try (first | contradiction | (exfalso; omega)))) | refine c_cond_nb rfl (fun h => ?_) (fun h => ?_) | refine c_cond rfl (fun h => ?_) (fun h => ?_))) | refine c_block ?_ | refine c_skip ?_ | refine c_exit ?_ | refine c_regionQN rfl rfl (by decide +kernel) ?_)) | apply s_stepQ | (refine kQG ?_; (first | refine s_gyesQ rfl rfl rfl ?_ | refine s_gnoQ rfl rfl rfl rfl rfl ?_ | ((first | refine s_splitQ_d rfl rfl (fun h => ?_) (fun h => ?_) | refine s_splitQ_n rfl rfl (fun h => ?_) (fun h => ?_)) <;> (try (first | contradiction | (exfalso; omega)))) | refine s_splitQ_nb rfl rfl (fun h => ?_) (fun h => ?_) | refine s_splitQ rfl rfl (fun h => ?_) (fun h => ?_))) | refine lQ_then ?_ | refine lQ_ends ?_ | (refine kE ?_; (first | refine e_then_r ?_ | refine e_block_r ?_ | refine e_then_n ?_ | refine e_then_x ?_ | refine e_block_n ?_ | refine e_block_x ?_ | refine e_block_y rfl ?_)) | refine l_ends ?_)
  all_goals exact s_leave1 rfl rfl (fun w hw => ⟨_, H', [], rfl, ⟨vint_to (by rw [kAt_end]), hu, rfl⟩, (hw.sub (L' := [_]) (by repeat' first | exact List.nil_sublist _ | exact List.Sublist.slnil | refine List.Sublist.cons_cons _ ?_ | refine List.Sublist.cons _ ?_)).lone⟩)
section
variable {n : Nat} {lo : SMut} {s : World} {ops : Array Oper} {Q : Exit → Act → World → Prop} {E : SEnv} {L : SHeap} {dd : Nat} {ty : TypeId} {pos : String} {after : Array Edge} {rest : List Oper}
theorem s_markSceneX (i : Nat) (x : DScene) {v : Value} {k : Int} {H : SPiece} {args : List Operand} {ts : Array TypeId} (ha : svals E args = some [vScene x v, .int .i64 k]) (hv : OElems eSurf 62 v x.ss H) (hL : getL L i = some H) (hk : 0 ≤ k ∧ k ≤ 1000000000) (hl : x.ss.length ≤ 1048576 ∧ surfsLen x.ss ≤ 1048576) (hd : Nat.blt dd n = true)
    (c : ∀ H', OElems eSurf 62 v (markSurfs x.ss k) H' → WPL Try.prog n lo s ops Q rest ((dd, .int .i64 (k + 9 * x.ss.length + surfsLen x.ss)) :: E) ([] :: setL L i H')) :
    WPL Try.prog n lo s ops Q (⟨some dd, .call { callee := .value (.func 61), args := args.toArray, argTypes := ts }, ty, pos, after, none⟩ :: rest) E L :=
  s_callG i (fun u H' F => u = .int .i64 (k + 9 * x.ss.length + surfsLen x.ss) ∧ OElems eSurf 62 v (markSurfs x.ss k) H' ∧ F = []) ha hL (fun w hw hh hn => c_markSceneX x v H k w hv hh hn hk hl) hd (fun v' H' F hu => by obtain ⟨rfl, hu, rfl⟩ := hu; exact c H' hu)
end
theorem c_heldScene (x : DScene) (v : Value) (k : Int) (W : World) (hv : RS eSurf W v (markSurfs x.ss k)) (hk : 0 ≤ k ∧ k ≤ 1000000000) (hl : x.ss.length ≤ 1048576 ∧ surfsLen x.ss ≤ 1048576) :
    SYields Try.prog 137 #[vScene x v, .int .i64 k] (.int .i64 (k + 9 * x.ss.length + surfsLen x.ss)) W := by
  (first | apply SYields.mk | apply SYieldsF.mk | skip); refine s_enter Try.func137 rfl Try.ntmps137 rfl ?_
  repeat' (first | exact rfl | (apply kO; (first | exact ov_pure rfl | (apply kOBin; (first | exact aBin)) | (apply kOCall; (first | (apply kCallF; (first | exact (ov_call rfl (fun w hw => c_heldSurfs v x.ss k w (hv.keep (hw.cells rfl)) hk hl)))) | (apply kCallB; (first | exact aBlt | exact aLenR)))) | (apply kOLoad; (first | exact aLdF | exact aLdR)) | exact ov_fieldAddr rfl | (apply kOIdx; (first | exact aIdx)) | exact aRest | exact aNew | exact (ov_field1 (ft := 37) rfl rfl rfl rfl))) | (refine kN ?_; (first | (refine kStore ?_; (first | refine s_store1 _ rfl rfl gpA rfl (by rfl) ?_ | refine s_storeS _ rfl rfl gpA rfl rfl (by rfl) ?_ | refine s_storeS _ rfl rfl gpA rfl (ones_img oiA) (by rfl) ?_)) | refine s_boxS rfl rfl (fun b hb => ?_) | refine s_allocS rfl (fun b hb => ?_) | refine s_box1 rfl rfl rfl (fun b hb => ?_) | refine s_alloc1 rfl rfl (fun b hb => ?_) | refine s_buildSlice0 rfl (fun b hb => ?_) | refine s_buildSlice rfl rfl rfl rfl rfl (fun b hb => ?_) | apply s_step)) | (refine kG ?_; (first | refine s_gyes rfl rfl rfl ?_ | refine s_gno rfl rfl rfl rfl rfl ?_ | ((first | refine s_split_d rfl rfl (fun h => ?_) (fun h => ?_) | refine s_split_n rfl rfl (fun h => ?_) (fun h => ?_)) <;> (try (first | contradiction | (exfalso; omega) | (exfalso; (exfalso; omega))))) | refine s_split_nb rfl rfl (fun h => ?_) (fun h => ?_) | refine s_split rfl rfl (fun h => ?_) (fun h => ?_))) | refine l_then ?_ | (refine kC ?_; (first | refine c_seq ?_ | refine c_regionN rfl ?_ | refine c_ret ?_ | (refine kCond ?_; (first | refine c_cond_t rfl ?_ | refine c_cond_f rfl ?_ | ((first | refine c_cond_d rfl (fun h => ?_) (fun h => ?_) | refine c_cond_n rfl (fun h => ?_) (fun h => ?_)) <;> (try (first | contradiction | (exfalso; omega) | (exfalso; (exfalso; omega))))) | refine c_cond_nb rfl (fun h => ?_) (fun h => ?_) | refine c_cond rfl (fun h => ?_) (fun h => ?_))) | refine c_block ?_ | refine c_skip ?_ | refine c_exit ?_ | refine c_regionQN rfl rfl (by decide +kernel) ?_)) | apply s_stepQ | (refine kQG ?_; (first | refine s_gyesQ rfl rfl rfl ?_ | refine s_gnoQ rfl rfl rfl rfl rfl ?_ | ((first | refine s_splitQ_d rfl rfl (fun h => ?_) (fun h => ?_) | refine s_splitQ_n rfl rfl (fun h => ?_) (fun h => ?_)) <;> (try (first | contradiction | (exfalso; omega) | (exfalso; (exfalso; omega))))) | refine s_splitQ_nb rfl rfl (fun h => ?_) (fun h => ?_) | refine s_splitQ rfl rfl (fun h => ?_) (fun h => ?_))) | refine lQ_then ?_ | refine lQ_ends ?_ | (refine kE ?_; (first | refine e_then_r ?_ | refine e_block_r ?_ | refine e_then_n ?_ | refine e_then_x ?_ | refine e_block_n ?_ | refine e_block_x ?_ | refine e_block_y rfl ?_)) | refine l_ends ?_)
  all_goals refine s_leave1 rfl rfl (fun w hw => ⟨?_, hw.below⟩)
  all_goals first | rfl | (exfalso; omega)
/-! ### edits -/
def keeps7 (ds : Nat → Value) (n : Nat) (cells : List Value) : Prop := ∀ i, i < n → cells[i * 7 + 6]? = some (ds i)
end Go.Proofs.Ytakijgpoaeggnaa
/-
  Contracts: chains of buffers that the laws mark, and what they hold then.
-/
set_option linter.unusedVariables false
namespace Go.Proofs.Ytakijgpoaeggnaa
open Go Sx
attribute [local irreducible] Exit.then Exit.inBlock bodyPost OVs
section
variable {α : Type} {d : ETri α}
theorem drop_getG {T : List (ETri α)} {j : Nat} (h : j < T.length) : T.drop j = T.getD j d :: T.drop (j + 1) := by
  rw [List.drop_eq_getElem_cons h, List.getD_eq_getElem?_getD, List.getElem?_eq_getElem h]; rfl
theorem getG_mem {T : List (ETri α)} {j : Nat} (h : j < T.length) : T.getD j d ∈ T := by
  rw [List.getD_eq_getElem?_getD, List.getElem?_eq_getElem h]; exact List.getElem_mem h
theorem getG_fst {T : List (ETri α)} {j : Nat} : (T.getD j d).1 = (T.map (·.1)).getD j d.1 := by
  rw [List.getD_eq_getElem?_getD, List.getD_eq_getElem?_getD, List.getElem?_map]
  cases T[j]? <;> rfl
end
/-! ### images -/
abbrev dI : ETri DImg := (DImg.zero, undef, [])
def kI (l : List DImg) (k : Int) (i : Nat) : Int := k + 2 * (i : Int) + (sumTo (fun i => (l.getD i DImg.zero).data.length) i : Nat)
theorem kI_zero (l : List DImg) (k : Int) : kI l k 0 = k := by simp [kI, sumTo]
theorem kI_succ (l : List DImg) (k : Int) (i : Nat) : kI l k (i + 1) = kI l k i + 2 + ((l.getD i DImg.zero).data.length : Nat) := by
  have : sumTo (fun i => (l.getD i DImg.zero).data.length) (i + 1) = sumTo (fun i => (l.getD i DImg.zero).data.length) i + (l.getD i DImg.zero).data.length := rfl
  unfold kI; rw [this]; push_cast; omega
theorem kI_end (l : List DImg) (k : Int) : kI l k l.length = k + l.length + imgsLen l := by
  unfold kI imgsLen; push_cast; omega
theorem kI_bd {l : List DImg} {k : Int} {i : Nat} (h : i ≤ l.length) : k ≤ kI l k i ∧ kI l k i ≤ kI l k l.length := by
  have := sumTo_mono (fun i => (l.getD i DImg.zero).data.length) h
  unfold kI; omega
def markImg' (s : DImg) (k : Int) : DImg := ⟨k, k + 1, iota (k + 2) s.data.length⟩
def markImgs (l : List DImg) (k : Int) : List DImg := (List.range l.length).map (fun i => markImg' (l.getD i DImg.zero) (kI l k i))
theorem markImgs_length (l : List DImg) (k : Int) : (markImgs l k).length = l.length := by simp [markImgs]
theorem markImgs_get (l : List DImg) (k : Int) {i : Nat} (h : i < l.length) : (markImgs l k).getD i DImg.zero = markImg' (l.getD i DImg.zero) (kI l k i) := by
  simp [markImgs, List.getD_eq_getElem?_getD, h]
theorem markImgs_take (l : List DImg) (k : Int) {i : Nat} (h : i < l.length) : (markImgs l k).take (i + 1) = (markImgs l k).take i ++ [markImg' (l.getD i DImg.zero) (kI l k i)] := by
  rw [take_getD DImg.zero (by rw [markImgs_length]; exact h), markImgs_get l k h]
theorem set2' {P R : List Value} {a0 a1 b0 b1 : Value} {p : Nat} (hp : P.length = p) : ((P ++ (a0 :: a1 :: R)).set p b0).set (p + 1) b1 = P ++ (b0 :: b1 :: R) := by
  subst hp
  rw [List.set_append_right _ _ (Nat.le_refl _), List.set_append_right _ _ (by omega)]
  rw [Nat.sub_self, show P.length + 1 - P.length = 1 by omega]
  rfl
theorem img_cells_at {A : List Value} {R : List Value} {s : DImg} {d : Value} {p : Nat} (hp : A.length = p) : keepsD (p + 2) d (A ++ (eImg.cells s d ++ R)) := by
  unfold keepsD
  rw [List.getElem?_append_right (by omega), show p + 2 - A.length = 2 by omega]; rfl
set_option maxHeartbeats 4000000 in
theorem c_markImgs (v : Value) (l : List DImg) (H : SPiece) (k : Int) (W : World) (hv : OElems eImg 39 v l H) (hH : Holds W H) (hn : H.keys.Nodup) (hk : 0 ≤ k ∧ k ≤ 1000000000) (hl : imgsLen l ≤ 1048576) :
    SYieldsG Try.prog 133 #[v, .int .i64 k] H (fun u H' F => u = .int .i64 (kI l k l.length) ∧ OElems eImg 39 v (markImgs l k) H' ∧ F = []) W := by
  obtain ⟨T, H0, G, hT, h1, h2, rfl⟩ := hv.tri
  have hTl : T.length = l.length := by rw [← hT, List.length_map]
  have hln : l.length ≤ imgsLen l := by unfold imgsLen; omega
  have hke := kI_end l k
  have hkb := fun j (h : j ≤ l.length) => kI_bd (k := k) h
  have hks := kI_succ l k
  have hcl := fun T' => tcells_length eImg T'
  rcases OVec.inv h1 with ⟨rfl, hn0, rfl⟩ | ⟨b0, cap, r, rfl, rfl, hcap, hnc, hcm⟩
  · have hl0 : l = [] := List.eq_nil_of_length_eq_zero (by omega)
    subst hl0
    refine SYieldsG.mk (s_enterM Try.func133 rfl Try.ntmps133 rfl hH hn ?_)
    repeat' (first | exact rfl | (apply kO; (first | exact ov_pure rfl | (apply kOBin; (first | exact aBin)) | (apply kOCall; (first | (apply kCallB; (first | exact aBlt | exact aLenR)))) | (apply kOLoad; (first | exact aLdF | exact aLdR)) | exact ov_fieldAddr rfl | (apply kOIdx; (first | exact aIdx)) | exact aRest | exact aNew | exact (ov_field1 (ft := 37) rfl rfl rfl rfl))) | (refine kN ?_; (first | (refine kStore ?_; (first | refine s_store1 _ rfl rfl gpA rfl (by rfl) ?_ | refine s_storeS _ rfl rfl gpA rfl rfl (by rfl) ?_ | refine s_storeS _ rfl rfl gpA rfl (ones_img oiA) (by rfl) ?_)) | refine s_boxS rfl rfl (fun b hb => ?_) | refine s_allocS rfl (fun b hb => ?_) | refine s_box1 rfl rfl rfl (fun b hb => ?_) | refine s_alloc1 rfl rfl (fun b hb => ?_) | refine s_buildSlice0 rfl (fun b hb => ?_) | refine s_buildSlice rfl rfl rfl rfl rfl (fun b hb => ?_) | apply s_step)) | (refine kG ?_; (first | refine s_gyes rfl rfl rfl ?_ | refine s_gno rfl rfl rfl rfl rfl ?_ | ((first | refine s_split_d rfl rfl (fun h => ?_) (fun h => ?_) | refine s_split_n rfl rfl (fun h => ?_) (fun h => ?_)) <;> (try (first | contradiction | (exfalso; omega)))) | refine s_split_nb rfl rfl (fun h => ?_) (fun h => ?_) | refine s_split rfl rfl (fun h => ?_) (fun h => ?_))) | refine l_then ?_ | (refine kC ?_; (first | (refine c_loopV (ι := Nat) (fun j => j = 0) (fun j => [(5, .int .i64 (j : Int)), (1, .int .i64 k)]) (fun j => [_]) (fun j => 0) 0 rfl rfl (fun _ => rfl) ⟨rfl, rfl, trivial⟩ (fun w hw => hw) (fun j hj => ?_)) | refine c_seq ?_ | refine c_regionN rfl ?_ | refine c_ret ?_ | (refine kCond ?_; (first | refine c_cond_t rfl ?_ | refine c_cond_f rfl ?_ | ((first | refine c_cond_d rfl (fun h => ?_) (fun h => ?_) | refine c_cond_n rfl (fun h => ?_) (fun h => ?_)) <;> (try (first | contradiction | (exfalso; omega)))) | refine c_cond_nb rfl (fun h => ?_) (fun h => ?_) | refine c_cond rfl (fun h => ?_) (fun h => ?_))) | refine c_block ?_ | refine c_skip ?_ | refine c_exit ?_ | refine c_regionQN rfl rfl (by decide +kernel) ?_)) | apply s_stepQ | (refine kQG ?_; (first | refine s_gyesQ rfl rfl rfl ?_ | refine s_gnoQ rfl rfl rfl rfl rfl ?_ | ((first | refine s_splitQ_d rfl rfl (fun h => ?_) (fun h => ?_) | refine s_splitQ_n rfl rfl (fun h => ?_) (fun h => ?_)) <;> (try (first | contradiction | (exfalso; omega)))) | refine s_splitQ_nb rfl rfl (fun h => ?_) (fun h => ?_) | refine s_splitQ rfl rfl (fun h => ?_) (fun h => ?_))) | refine lQ_then ?_ | refine lQ_ends ?_ | (refine kE ?_; (first | refine e_then_r ?_ | refine e_block_r ?_ | refine e_then_n ?_ | refine e_then_x ?_ | refine e_block_n ?_ | refine e_block_x ?_ | refine e_block_y rfl ?_)) | refine l_ends ?_)
    all_goals
      exact s_leave1 rfl rfl (fun w hw => ⟨_, [], [], rfl, ⟨by rw [hke]; exact vint_to (by simp [imgsLen, sumTo]), OElems.nil, rfl⟩, hw.gone⟩)
  · rw [hTl] at hnc ⊢
    refine SYieldsG.mk (s_enterM Try.func133 rfl Try.ntmps133 rfl hH hn ?_)
    refine c_regroup (L' := [[(b0, srow (tcells eImg ([] ++ T.drop 0) ++ r) 39)], tpiece ([] : List (ETri DImg)), tpiece (T.drop 0), G]) (fun w hw => hw.perm (by rw [List.drop_zero, List.nil_append]; simp [tpiece])) ?_
    repeat' (first | exact rfl | (apply kO; (first | exact ov_pure rfl | (apply kOBin; (first | exact aBin | exact (ov_add rfl rfl (by have q1 := hkb j.1 (by omega); have q2 := hkb (j.1 + 1) (by omega); have q3 := hks j.1; omega)))) | (apply kOCall; (first | (apply kCallB; (first | exact aBlt | exact aLenR)))) | (apply kOLoad; (first | exact (ov_load rfl rfl (getL_flat (i := 0) rfl (List.mem_singleton.2 rfl)) (keepsD_get (by repeat' first | exact hkeep (by omega) | apply keepsD_set | omega) (by omega))) | exact aLdF | exact aLdR)) | exact ov_fieldAddr rfl | (apply kOIdx; (first | exact (ov_indexAddr rfl rfl (by omega)) | exact aIdx)) | exact aRest | exact aNew | exact (ov_field1 (ft := 37) rfl rfl rfl rfl))) | (refine kN ?_; (first | (refine kCall ?_; (first | (refine kWFn 99 ?_; (refine w_split 2 (A := (T.getD j.1 dI).2.2) (B := tpiece (T.drop (j.1 + 1))) (by show some (tpiece (T.drop j.1)) = _; rw [drop_getG (d := dI) (by omega), tpiece_cons]) ?_; refine s_markI _ (l := (l.getD j.1 DImg.zero).data) rfl (show OInts 3 (T.getD j.1 dI).2.1 (l.getD j.1 DImg.zero).data (T.getD j.1 dI).2.2 from hown (by omega)) gpA (by have q1 := hkb j.1 (by omega); have q2 := hkb (j.1 + 1) (by omega); have q3 := hks j.1; omega) rfl (fun H' hu => ?_))) | apply s_step)) | (refine kStore ?_; (first | (refine s_setR 0 rfl rfl rfl rfl (by (try simp only [List.length_set]); omega) ?_) | refine s_store1 _ rfl rfl gpA rfl (by rfl) ?_ | refine s_storeS _ rfl rfl gpA rfl rfl (by rfl) ?_ | refine s_storeS _ rfl rfl gpA rfl (ones_img oiA) (by rfl) ?_)) | refine s_boxS rfl rfl (fun b hb => ?_) | refine s_allocS rfl (fun b hb => ?_) | refine s_box1 rfl rfl rfl (fun b hb => ?_) | refine s_alloc1 rfl rfl (fun b hb => ?_) | refine s_buildSlice0 rfl (fun b hb => ?_) | refine s_buildSlice rfl rfl rfl rfl rfl (fun b hb => ?_) | apply s_step)) | (refine kG ?_; (first | refine s_gyes rfl rfl rfl ?_ | refine s_gno rfl rfl rfl rfl rfl ?_ | ((first | refine s_split_d rfl rfl (fun h => ?_) (fun h => ?_) | refine s_split_n rfl rfl (fun h => ?_) (fun h => ?_)) <;> (try (first | contradiction | (exfalso; omega)))) | refine s_split_nb rfl rfl (fun h => ?_) (fun h => ?_) | refine s_split rfl rfl (fun h => ?_) (fun h => ?_))) | refine l_then ?_ | (refine kC ?_; (first | (refine c_loopV (ι := Nat × List (ETri DImg)) (fun j => j.1 ≤ l.length ∧ j.2.map (·.1) = (markImgs l k).take j.1 ∧ (∀ t ∈ j.2, eImg.own t.2.1 t.1 t.2.2)) (fun j => [(5, .int .i64 (j.1 : Int)), (1, .int .i64 (kI l k j.1))]) (fun j => [[(b0, srow (tcells eImg (j.2 ++ T.drop j.1) ++ r) 39)], tpiece j.2, tpiece (T.drop j.1), G]) (fun j => l.length - j.1) (0, []) ⟨by dsimp only; omega, by simp, fun t ht => by cases ht⟩ rfl (fun _ => rfl) ⟨rfl, slook_to rfl (vint_to (kI_zero l k).symm), trivial⟩ (fun w hw => hw) (fun j hj => ?_); obtain ⟨hj1, hj2, hj3⟩ := hj; have hjl : j.2.length = j.1 := (by have := congrArg List.length hj2; rw [List.length_map, List.length_take, markImgs_length] at this; omega); have hlen : (tcells eImg (j.2 ++ T.drop j.1) ++ r).length = cap * 3 := (by rw [List.length_append, hcl] at hcap ⊢; rw [List.length_append, List.length_drop, hjl, hTl]; rw [hTl] at hcap; have e1 : j.1 + (l.length - j.1) = l.length := (by omega); rw [e1]; exact hcap); have hown := (fun (h : j.1 < T.length) => (show OInts 3 (T.getD j.1 dI).2.1 (l.getD j.1 DImg.zero).data (T.getD j.1 dI).2.2 from by have e := h2 _ (getG_mem (d := dI) h); have e2 := getG_fst (d := dI) (T := T) (j := j.1); rw [hT] at e2; rw [← e2]; exact e)); have hkeep := (fun (h : j.1 < T.length) => (show keepsD (j.1 * 3 + 2) (T.getD j.1 dI).2.1 (tcells eImg (j.2 ++ T.drop j.1) ++ r) from by rw [drop_getG (d := dI) h, tcells_append, tcells_cons, List.append_assoc, List.append_assoc]; exact img_cells_at (by rw [hcl, hjl]; rfl)))) | refine c_seq ?_ | refine c_regionN rfl ?_ | refine c_ret ?_ | (refine kCond ?_; (first | refine c_cond_t rfl ?_ | refine c_cond_f rfl ?_ | ((first | refine c_cond_d rfl (fun h => ?_) (fun h => ?_) | refine c_cond_n rfl (fun h => ?_) (fun h => ?_)) <;> (try (first | contradiction | (exfalso; omega)))) | refine c_cond_nb rfl (fun h => ?_) (fun h => ?_) | refine c_cond rfl (fun h => ?_) (fun h => ?_))) | refine c_block ?_ | refine c_skip ?_ | refine c_exit ?_ | refine c_regionQN rfl rfl (by decide +kernel) ?_)) | apply s_stepQ | (refine kQG ?_; (first | refine s_gyesQ rfl rfl rfl ?_ | refine s_gnoQ rfl rfl rfl rfl rfl ?_ | ((first | refine s_splitQ_d rfl rfl (fun h => ?_) (fun h => ?_) | refine s_splitQ_n rfl rfl (fun h => ?_) (fun h => ?_)) <;> (try (first | contradiction | (exfalso; omega)))) | refine s_splitQ_nb rfl rfl (fun h => ?_) (fun h => ?_) | refine s_splitQ rfl rfl (fun h => ?_) (fun h => ?_))) | refine lQ_then ?_ | refine lQ_ends ?_ | (refine kE ?_; (first | refine e_then_r ?_ | refine e_block_r ?_ | refine e_then_n ?_ | refine e_then_x ?_ | refine e_block_n ?_ | refine e_block_x ?_ | refine e_block_y rfl ?_)) | refine l_ends ?_)
    · have hjT : j.1 < T.length := by omega
      have e1 : (T.getD j.1 dI).1 = l.getD j.1 DImg.zero := by rw [getG_fst, hT]
      have ecat : tcells eImg (j.2 ++ T.drop j.1) ++ r = tcells eImg j.2 ++ (.int .i64 (l.getD j.1 DImg.zero).W :: .int .i64 (l.getD j.1 DImg.zero).H :: ((T.getD j.1 dI).2.1 :: (tcells eImg (T.drop (j.1 + 1)) ++ r))) := by
        rw [drop_getG (d := dI) hjT, tcells_append, tcells_cons, List.append_assoc, List.append_assoc, e1]; rfl
      have hp : (tcells eImg j.2).length = j.1 * 3 := by rw [hcl, hjl]; rfl
      refine e_round (j.1 + 1, j.2 ++ [(markImg' (l.getD j.1 DImg.zero) (kI l k j.1), (T.getD j.1 dI).2.1, H')]) ⟨by dsimp only; omega, by dsimp only; rw [List.map_append, hj2, markImgs_take l k (by omega)]; rfl, fun t ht => ?_⟩ ⟨slook_to rfl (vint_to (by push_cast; rfl)), slook_to rfl (vint_to (by rw [hks]; omega)), (by repeat' first | exact trivial | refine ⟨rfl, ?_⟩)⟩ (fun w hw => ?_) (by dsimp only; omega)
      · rcases List.mem_append.1 ht with ht | ht
        · exact hj3 t ht
        · rw [List.mem_singleton] at ht
          subst ht
          rw [show kI l k j.1 + 1 + 1 = kI l k j.1 + 2 by omega] at hu
          exact hu
      · have hw2 : SSt _ _ [[], tpiece (T.drop (j.1 + 1)), [(b0, srow _ 39)], tpiece j.2, H', G] w := hw
        rw [ecat] at hw2
        simp only [Nat.zero_add, Int.toNat_natCast, Nat.add_zero] at hw2
        rw [set2' hp] at hw2
        have ecat2 : tcells eImg ((j.2 ++ [(markImg' (l.getD j.1 DImg.zero) (kI l k j.1), (T.getD j.1 dI).2.1, H')]) ++ T.drop (j.1 + 1)) ++ r = tcells eImg j.2 ++ (.int .i64 (kI l k j.1) :: .int .i64 (kI l k j.1 + 1) :: ((T.getD j.1 dI).2.1 :: (tcells eImg (T.drop (j.1 + 1)) ++ r))) := by
          rw [tcells_append, tcells_append, tcells_one, List.append_assoc, List.append_assoc]
          rfl
        dsimp only
        rw [ecat2, tpiece_append, tpiece_one]
        refine hw2.perm ?_
        simp only [List.flatten_cons, List.flatten_nil, List.append_nil, List.nil_append]
        refine (List.perm_append_comm_assoc ..).trans (List.Perm.append_left _ ?_)
        refine (List.perm_append_comm_assoc ..).trans ?_
        rw [List.append_assoc]
        refine List.Perm.append_left _ ?_
        exact List.perm_append_comm_assoc ..
    · have e : j.1 = l.length := by omega
      have hd0 : T.drop j.1 = [] := List.drop_of_length_le (by omega)
      rw [e, List.take_of_length_le (by rw [markImgs_length]; omega)] at hj2
      rw [hd0, List.append_nil] at hlen
      refine s_leave1 rfl rfl (fun w hw => ⟨_, [(b0, srow (tcells eImg j.2 ++ r) 39)] ++ (tpiece j.2 ++ G), [], rfl, ⟨by rw [e], ?_, rfl⟩, ?_⟩)
      · have o := OElems.ofTri (e := eImg) (U := 39) (T := j.2) (G := G) (OVec.blk (k := 3) (T := 39) b0 j.2.length cap (tcells eImg j.2) r (hcl _) hlen (by omega) hcm) hj3
        rw [hj2, hjl, e] at o
        exact o
      · have hw2 : SSt _ _ [[(b0, srow (tcells eImg (j.2 ++ T.drop j.1) ++ r) 39)], tpiece j.2, tpiece (T.drop j.1), G] w := hw
        rw [hd0, List.append_nil] at hw2
        refine hw2.perm ?_
        simp [tpiece]
set_option maxHeartbeats 2000000 in
theorem c_heldImgs (v : Value) (l : List DImg) (k : Int) (W : World) (hv : RS eImg W v (markImgs l k)) (hk : 0 ≤ k ∧ k ≤ 1000000000) (hl : imgsLen l ≤ 1048576) :
    SYields Try.prog 135 #[v, .int .i64 k] (.int .i64 (kI l k l.length)) W := by
  obtain ⟨ds, hv⟩ := hv
  have hlm := markImgs_length l k
  have hln : l.length ≤ imgsLen l := by unfold imgsLen; omega
  have hke := kI_end l k
  have hkb := fun j (h : j ≤ l.length) => kI_bd (k := k) h
  have hks := kI_succ l k
  have hlr := hv.row.len
  rw [hlm] at hlr
  have hrow : RRow W v 3 l.length (fun i => [.int .i64 (kI l k i), .int .i64 (kI l k i + 1), ds i]) :=
    RRow.congr hv.row hlm.symm (fun i hi => by rw [eImg_dflt, markImgs_get l k (by rw [hlm] at hi; exact hi)]; rfl)
  have hrd : ∀ i, i < l.length → RInts W (ds i) (iota (kI l k i + 2) (l.getD i DImg.zero).data.length) := fun i hi => by
    have := hv.rd i (by rw [hlm]; exact hi)
    rw [eImg_dflt, markImgs_get l k hi] at this; exact this
  have hhm := fun (i : Nat) => heldI_mark (kI l k i + 2) (l.getD i DImg.zero).data.length
  (first | apply SYields.mk | apply SYieldsF.mk | skip); refine s_enter Try.func135 rfl Try.ntmps135 rfl ?_
  repeat' (first | exact rfl | (apply kO; (first | exact ov_pure rfl | (apply kOBin; (first | exact aBin | exact (ov_add rfl rfl (by have q1 := hkb j (by omega); have q2 := hkb (j + 1) (by omega); have q3 := hks j; omega)))) | (apply kOCall; (first | (apply kCallF; (first | exact (ov_call rfl (fun w hw => c_heldIntS _ _ _ w (RInts.keep (hrd j (by omega)) (hw.cells rfl)) (by rw [iota_length]; have q1 := hkb j (by omega); have q2 := hkb (j + 1) (by omega); have q3 := hks j; omega))))) | (apply kCallB; (first | exact aBlt | exact (ov_lenR (fun w hw => hrow.keep (hw.cells rfl)) rfl) | exact aLenR)))) | (apply kOLoad; (first | exact (ov_ldR0 (fun w hw => hrow.keep (hw.cells rfl)) rfl rfl (by omega) rfl) | exact (ov_ldR (fun w hw => hrow.keep (hw.cells rfl)) rfl rfl (by omega) rfl) | exact (ov_ldRN (fun w hw => hrow.keep (hw.cells rfl)) rfl rfl (by omega) rfl) | exact aLdF | exact aLdR)) | exact ov_fieldAddr rfl | (apply kOIdx; (first | exact (ov_idxR (fun w hw => hrow.keep (hw.cells rfl)) rfl rfl (by omega)) | exact aIdx)) | exact aRest | exact aNew | exact (ov_field1 (ft := 37) rfl rfl rfl rfl))) | (refine kN ?_; (first | (refine kStore ?_; (first | refine s_store1 _ rfl rfl gpA rfl (by rfl) ?_ | refine s_storeS _ rfl rfl gpA rfl rfl (by rfl) ?_ | refine s_storeS _ rfl rfl gpA rfl (ones_img oiA) (by rfl) ?_)) | refine s_boxS rfl rfl (fun b hb => ?_) | refine s_allocS rfl (fun b hb => ?_) | refine s_box1 rfl rfl rfl (fun b hb => ?_) | refine s_alloc1 rfl rfl (fun b hb => ?_) | refine s_buildSlice0 rfl (fun b hb => ?_) | refine s_buildSlice rfl rfl rfl rfl rfl (fun b hb => ?_) | apply s_step)) | (refine kG ?_; (first | refine s_gyes rfl rfl rfl ?_ | refine s_gno rfl rfl rfl rfl rfl ?_ | ((first | refine s_split_d rfl rfl (fun h => ?_) (fun h => ?_) | refine s_split_n rfl rfl (fun h => ?_) (fun h => ?_)) <;> (try (first | contradiction | (exfalso; omega)))) | refine s_split_nb rfl rfl (fun h => ?_) (fun h => ?_) | refine s_split rfl rfl (fun h => ?_) (fun h => ?_))) | refine l_then ?_ | (refine kC ?_; (first | (refine c_loopV (ι := Nat) (fun j => j ≤ l.length) (fun j => [(1, .int .i64 (kI l k j)), (5, .int .i64 (j : Int))]) (fun _ => []) (fun j => l.length - j) 0 (by omega) rfl (fun _ => rfl) ⟨slook_to rfl (vint_to (kI_zero l k).symm), rfl, trivial⟩ (fun w hw => hw) (fun j hj => ?_)) | refine c_seq ?_ | refine c_regionN rfl ?_ | refine c_ret ?_ | (refine kCond ?_; (first | refine c_cond_t rfl ?_ | refine c_cond_f rfl ?_ | ((first | refine c_cond_d rfl (fun h => ?_) (fun h => ?_) | refine c_cond_n rfl (fun h => ?_) (fun h => ?_)) <;> (try (first | contradiction | (exfalso; omega)))) | refine c_cond_nb rfl (fun h => ?_) (fun h => ?_) | refine c_cond rfl (fun h => ?_) (fun h => ?_))) | refine c_block ?_ | refine c_skip ?_ | refine c_exit ?_ | refine c_regionQN rfl rfl (by decide +kernel) ?_)) | apply s_stepQ | (refine kQG ?_; (first | refine s_gyesQ rfl rfl rfl ?_ | refine s_gnoQ rfl rfl rfl rfl rfl ?_ | ((first | refine s_splitQ_d rfl rfl (fun h => ?_) (fun h => ?_) | refine s_splitQ_n rfl rfl (fun h => ?_) (fun h => ?_)) <;> (try (first | contradiction | (exfalso; omega)))) | refine s_splitQ_nb rfl rfl (fun h => ?_) (fun h => ?_) | refine s_splitQ rfl rfl (fun h => ?_) (fun h => ?_))) | refine lQ_then ?_ | refine lQ_ends ?_ | (refine kE ?_; (first | refine e_then_r ?_ | refine e_block_r ?_ | refine e_then_n ?_ | refine e_then_x ?_ | refine e_block_n ?_ | refine e_block_x ?_ | refine e_block_y rfl ?_)) | refine l_ends ?_)
  all_goals try simp only [Int.toNat_natCast] at *
  all_goals try (exfalso; omega)
  · exfalso
    rw [show kI l k j + 1 + 1 = kI l k j + 2 by omega, hhm] at h
    have := hkb j hj
    omega
  · exact e_round (j + 1) (by omega) ⟨slook_to rfl (vint_to (by rw [show kI l k j + 1 + 1 = kI l k j + 2 by omega, hhm, hks])), rfl, (by repeat' first | exact trivial | refine ⟨rfl, ?_⟩)⟩ (fun w hw => hw) (by omega)
  · exact s_leave1 rfl rfl (fun w hw => ⟨ret_int (by rw [show j = l.length by omega]), hw.below⟩)
/-! ### regions -/
abbrev dR : ETri (List DRect) := ([], undef, [])
def kR (l : List (List DRect)) (k : Int) (i : Nat) : Int := k + 4 * (sumTo (fun i => (l.getD i []).length) i : Nat)
theorem kR_zero (l : List (List DRect)) (k : Int) : kR l k 0 = k := by simp [kR, sumTo]
theorem kR_succ (l : List (List DRect)) (k : Int) (i : Nat) : kR l k (i + 1) = kR l k i + 4 * ((l.getD i []).length : Nat) := by
  have : sumTo (fun i => (l.getD i []).length) (i + 1) = sumTo (fun i => (l.getD i []).length) i + (l.getD i []).length := rfl
  unfold kR; rw [this]; push_cast; omega
theorem kR_end (l : List (List DRect)) (k : Int) : k ≤ kR l k l.length ∧ kR l k l.length ≤ k + 4 * regsLen l := by
  unfold kR regsLen; omega
theorem kR_bd {l : List (List DRect)} {k : Int} {i : Nat} (h : i ≤ l.length) : k ≤ kR l k i ∧ kR l k i ≤ kR l k l.length := by
  have := sumTo_mono (fun i => (l.getD i []).length) h
  unfold kR; omega
def markRegs (l : List (List DRect)) (k : Int) : List (List DRect) := (List.range l.length).map (fun i => iotaR (kR l k i) (l.getD i []).length)
theorem markRegs_length (l : List (List DRect)) (k : Int) : (markRegs l k).length = l.length := by simp [markRegs]
theorem markRegs_get (l : List (List DRect)) (k : Int) {i : Nat} (h : i < l.length) : (markRegs l k).getD i [] = iotaR (kR l k i) (l.getD i []).length := by
  simp [markRegs, List.getD_eq_getElem?_getD, h]
theorem markRegs_take (l : List (List DRect)) (k : Int) {i : Nat} (h : i < l.length) : (markRegs l k).take (i + 1) = (markRegs l k).take i ++ [iotaR (kR l k i) (l.getD i []).length] := by
  rw [take_getD [] (by rw [markRegs_length]; exact h), markRegs_get l k h]
theorem reg_cells_at {A : List Value} {R : List Value} {s : List DRect} {d : Value} {p : Nat} (hp : A.length = p) : keepsD p d (A ++ (eReg.cells s d ++ R)) := by
  unfold keepsD
  rw [List.getElem?_append_right (by omega), show p - A.length = 0 by omega]; rfl
section
variable {n : Nat} {lo : SMut} {s : World} {ops : Array Oper} {Q : Exit → Act → World → Prop} {E : SEnv} {L : SHeap} {dd : Nat} {ty : TypeId} {pos : String} {after : Array Edge} {rest : List Oper}
theorem s_markRects (i : Nat) {v : Value} {l : List DRect} {k : Int} {H : SPiece} {args : List Operand} {ts : Array TypeId} (ha : svals E args = some [v, .int .i64 k]) (hv : ORects v l H) (hL : getL L i = some H) (hk : 0 ≤ k ∧ k + 4 * l.length ≤ 4611686018427387904) (hd : Nat.blt dd n = true)
    (c : ∀ H', ORects v (iotaR k l.length) H' → WPL Try.prog n lo s ops Q rest ((dd, .int .i64 (k + 4 * l.length)) :: E) ([] :: setL L i H')) :
    WPL Try.prog n lo s ops Q (⟨some dd, .call { callee := .value (.func 183), args := args.toArray, argTypes := ts }, ty, pos, after, none⟩ :: rest) E L :=
  s_callG i (fun u H' F => u = .int .i64 (k + 4 * l.length) ∧ ORects v (iotaR k l.length) H' ∧ F = []) ha hL (fun w hw hh hn => c_markRectS v l H k w hv hh hn hk) hd (fun v' H' F hu => by obtain ⟨rfl, hu, rfl⟩ := hu; exact c H' hu)
end
set_option maxHeartbeats 4000000 in
theorem c_markRegs (v : Value) (l : List (List DRect)) (H : SPiece) (k : Int) (W : World) (hv : OElems eReg 34 v l H) (hH : Holds W H) (hn : H.keys.Nodup) (hk : 0 ≤ k ∧ k ≤ 1000000000) (hl : regsLen l ≤ 1048576) :
    SYieldsG Try.prog 134 #[v, .int .i64 k] H (fun u H' F => u = .int .i64 (kR l k l.length) ∧ OElems eReg 34 v (markRegs l k) H' ∧ F = []) W := by
  obtain ⟨T, H0, G, hT, h1, h2, rfl⟩ := hv.tri
  have hTl : T.length = l.length := by rw [← hT, List.length_map]
  have hln : l.length ≤ regsLen l := by unfold regsLen; omega
  have hke := kR_end l k
  have hkb := fun j (h : j ≤ l.length) => kR_bd (k := k) h
  have hks := kR_succ l k
  have hcl := fun T' => tcells_length eReg T'
  rcases OVec.inv h1 with ⟨rfl, hn0, rfl⟩ | ⟨b0, cap, r, rfl, rfl, hcap, hnc, hcm⟩
  · have hl0 : l = [] := List.eq_nil_of_length_eq_zero (by omega)
    subst hl0
    refine SYieldsG.mk (s_enterM Try.func134 rfl Try.ntmps134 rfl hH hn ?_)
    repeat' (first | exact rfl | (apply kO; (first | exact ov_pure rfl | (apply kOBin; (first | exact aBin)) | (apply kOCall; (first | (apply kCallB; (first | exact aBlt | exact aLenR)))) | (apply kOLoad; (first | exact aLdF | exact aLdR)) | exact ov_fieldAddr rfl | (apply kOIdx; (first | exact aIdx)) | exact aRest | exact aNew | exact (ov_field1 (ft := 37) rfl rfl rfl rfl))) | (refine kN ?_; (first | (refine kStore ?_; (first | refine s_store1 _ rfl rfl gpA rfl (by rfl) ?_ | refine s_storeS _ rfl rfl gpA rfl rfl (by rfl) ?_ | refine s_storeS _ rfl rfl gpA rfl (ones_img oiA) (by rfl) ?_)) | refine s_boxS rfl rfl (fun b hb => ?_) | refine s_allocS rfl (fun b hb => ?_) | refine s_box1 rfl rfl rfl (fun b hb => ?_) | refine s_alloc1 rfl rfl (fun b hb => ?_) | refine s_buildSlice0 rfl (fun b hb => ?_) | refine s_buildSlice rfl rfl rfl rfl rfl (fun b hb => ?_) | apply s_step)) | (refine kG ?_; (first | refine s_gyes rfl rfl rfl ?_ | refine s_gno rfl rfl rfl rfl rfl ?_ | ((first | refine s_split_d rfl rfl (fun h => ?_) (fun h => ?_) | refine s_split_n rfl rfl (fun h => ?_) (fun h => ?_)) <;> (try (first | contradiction | (exfalso; omega)))) | refine s_split_nb rfl rfl (fun h => ?_) (fun h => ?_) | refine s_split rfl rfl (fun h => ?_) (fun h => ?_))) | refine l_then ?_ | (refine kC ?_; (first | (refine c_loopV (ι := Nat) (fun j => j = 0) (fun j => [(5, .int .i64 (j : Int)), (1, .int .i64 k)]) (fun j => [_]) (fun j => 0) 0 rfl rfl (fun _ => rfl) ⟨rfl, rfl, trivial⟩ (fun w hw => hw) (fun j hj => ?_)) | refine c_seq ?_ | refine c_regionN rfl ?_ | refine c_ret ?_ | (refine kCond ?_; (first | refine c_cond_t rfl ?_ | refine c_cond_f rfl ?_ | ((first | refine c_cond_d rfl (fun h => ?_) (fun h => ?_) | refine c_cond_n rfl (fun h => ?_) (fun h => ?_)) <;> (try (first | contradiction | (exfalso; omega)))) | refine c_cond_nb rfl (fun h => ?_) (fun h => ?_) | refine c_cond rfl (fun h => ?_) (fun h => ?_))) | refine c_block ?_ | refine c_skip ?_ | refine c_exit ?_ | refine c_regionQN rfl rfl (by decide +kernel) ?_)) | apply s_stepQ | (refine kQG ?_; (first | refine s_gyesQ rfl rfl rfl ?_ | refine s_gnoQ rfl rfl rfl rfl rfl ?_ | ((first | refine s_splitQ_d rfl rfl (fun h => ?_) (fun h => ?_) | refine s_splitQ_n rfl rfl (fun h => ?_) (fun h => ?_)) <;> (try (first | contradiction | (exfalso; omega)))) | refine s_splitQ_nb rfl rfl (fun h => ?_) (fun h => ?_) | refine s_splitQ rfl rfl (fun h => ?_) (fun h => ?_))) | refine lQ_then ?_ | refine lQ_ends ?_ | (refine kE ?_; (first | refine e_then_r ?_ | refine e_block_r ?_ | refine e_then_n ?_ | refine e_then_x ?_ | refine e_block_n ?_ | refine e_block_x ?_ | refine e_block_y rfl ?_)) | refine l_ends ?_)
    all_goals
      exact s_leave1 rfl rfl (fun w hw => ⟨_, [], [], rfl, ⟨vint_to (kR_zero [] k).symm, OElems.nil, rfl⟩, hw.gone⟩)
  · rw [hTl] at hnc ⊢
    refine SYieldsG.mk (s_enterM Try.func134 rfl Try.ntmps134 rfl hH hn ?_)
    refine c_regroup (L' := [[(b0, srow (tcells eReg ([] ++ T.drop 0) ++ r) 34)], tpiece ([] : List (ETri (List DRect))), tpiece (T.drop 0), G]) (fun w hw => hw.perm (by rw [List.drop_zero, List.nil_append]; simp [tpiece])) ?_
    repeat' (first | exact rfl | (apply kO; (first | exact ov_pure rfl | (apply kOBin; (first | exact aBin)) | (apply kOCall; (first | (apply kCallB; (first | exact aBlt | exact aLenR)))) | (apply kOLoad; (first | exact (ov_load rfl rfl (getL_flat (i := 0) rfl (List.mem_singleton.2 rfl)) (keepsD_get (hkeep (by omega)) (by omega))) | exact aLdF | exact aLdR)) | exact ov_fieldAddr rfl | (apply kOIdx; (first | exact (ov_indexAddr rfl rfl (by omega)) | exact aIdx)) | exact aRest | exact aNew | exact (ov_field1 (ft := 37) rfl rfl rfl rfl))) | (refine kN ?_; (first | (refine kCall ?_; (first | (refine kWFn 183 ?_; (refine w_split 2 (A := (T.getD j.1 dR).2.2) (B := tpiece (T.drop (j.1 + 1))) (by show some (tpiece (T.drop j.1)) = _; rw [drop_getG (d := dR) (by omega), tpiece_cons]) ?_; refine s_markRects _ (l := l.getD j.1 []) rfl (show ORects (T.getD j.1 dR).2.1 (l.getD j.1 []) (T.getD j.1 dR).2.2 from hown (by omega)) gpA (by have q1 := hkb j.1 (by omega); have q2 := hkb (j.1 + 1) (by omega); have q3 := hks j.1; omega) rfl (fun H' hu => ?_))) | apply s_step)) | (refine kStore ?_; (first | refine s_store1 _ rfl rfl gpA rfl (by rfl) ?_ | refine s_storeS _ rfl rfl gpA rfl rfl (by rfl) ?_ | refine s_storeS _ rfl rfl gpA rfl (ones_img oiA) (by rfl) ?_)) | refine s_boxS rfl rfl (fun b hb => ?_) | refine s_allocS rfl (fun b hb => ?_) | refine s_box1 rfl rfl rfl (fun b hb => ?_) | refine s_alloc1 rfl rfl (fun b hb => ?_) | refine s_buildSlice0 rfl (fun b hb => ?_) | refine s_buildSlice rfl rfl rfl rfl rfl (fun b hb => ?_) | apply s_step)) | (refine kG ?_; (first | refine s_gyes rfl rfl rfl ?_ | refine s_gno rfl rfl rfl rfl rfl ?_ | ((first | refine s_split_d rfl rfl (fun h => ?_) (fun h => ?_) | refine s_split_n rfl rfl (fun h => ?_) (fun h => ?_)) <;> (try (first | contradiction | (exfalso; omega)))) | refine s_split_nb rfl rfl (fun h => ?_) (fun h => ?_) | refine s_split rfl rfl (fun h => ?_) (fun h => ?_))) | refine l_then ?_ | (refine kC ?_; (first | (refine c_loopV (ι := Nat × List (ETri (List DRect))) (fun j => j.1 ≤ l.length ∧ j.2.map (·.1) = (markRegs l k).take j.1 ∧ (∀ t ∈ j.2, eReg.own t.2.1 t.1 t.2.2)) (fun j => [(5, .int .i64 (j.1 : Int)), (1, .int .i64 (kR l k j.1))]) (fun j => [[(b0, srow (tcells eReg (j.2 ++ T.drop j.1) ++ r) 34)], tpiece j.2, tpiece (T.drop j.1), G]) (fun j => l.length - j.1) (0, []) ⟨by dsimp only; omega, by simp, fun t ht => by cases ht⟩ rfl (fun _ => rfl) ⟨rfl, slook_to rfl (vint_to (kR_zero l k).symm), trivial⟩ (fun w hw => hw) (fun j hj => ?_); obtain ⟨hj1, hj2, hj3⟩ := hj; have hjl : j.2.length = j.1 := (by have := congrArg List.length hj2; rw [List.length_map, List.length_take, markRegs_length] at this; omega); have hlen : (tcells eReg (j.2 ++ T.drop j.1) ++ r).length = cap * 1 := (by rw [List.length_append, hcl] at hcap ⊢; rw [List.length_append, List.length_drop, hjl, hTl]; rw [hTl] at hcap; have e1 : j.1 + (l.length - j.1) = l.length := (by omega); rw [e1]; exact hcap); have hown := (fun (h : j.1 < T.length) => (show ORects (T.getD j.1 dR).2.1 (l.getD j.1 []) (T.getD j.1 dR).2.2 from by have e := h2 _ (getG_mem (d := dR) h); have e2 := getG_fst (d := dR) (T := T) (j := j.1); rw [hT] at e2; rw [← e2]; exact e)); have hkeep := (fun (h : j.1 < T.length) => (show keepsD j.1 (T.getD j.1 dR).2.1 (tcells eReg (j.2 ++ T.drop j.1) ++ r) from by rw [drop_getG (d := dR) h, tcells_append, tcells_cons, List.append_assoc, List.append_assoc]; exact reg_cells_at (by rw [hcl, hjl]; show j.1 * 1 = j.1; omega)))) | refine c_seq ?_ | refine c_regionN rfl ?_ | refine c_ret ?_ | (refine kCond ?_; (first | refine c_cond_t rfl ?_ | refine c_cond_f rfl ?_ | ((first | refine c_cond_d rfl (fun h => ?_) (fun h => ?_) | refine c_cond_n rfl (fun h => ?_) (fun h => ?_)) <;> (try (first | contradiction | (exfalso; omega)))) | refine c_cond_nb rfl (fun h => ?_) (fun h => ?_) | refine c_cond rfl (fun h => ?_) (fun h => ?_))) | refine c_block ?_ | refine c_skip ?_ | refine c_exit ?_ | refine c_regionQN rfl rfl (by decide +kernel) ?_)) | apply s_stepQ | (refine kQG ?_; (first | refine s_gyesQ rfl rfl rfl ?_ | refine s_gnoQ rfl rfl rfl rfl rfl ?_ | ((first | refine s_splitQ_d rfl rfl (fun h => ?_) (fun h => ?_) | refine s_splitQ_n rfl rfl (fun h => ?_) (fun h => ?_)) <;> (try (first | contradiction | (exfalso; omega)))) | refine s_splitQ_nb rfl rfl (fun h => ?_) (fun h => ?_) | refine s_splitQ rfl rfl (fun h => ?_) (fun h => ?_))) | refine lQ_then ?_ | refine lQ_ends ?_ | (refine kE ?_; (first | refine e_then_r ?_ | refine e_block_r ?_ | refine e_then_n ?_ | refine e_then_x ?_ | refine e_block_n ?_ | refine e_block_x ?_ | refine e_block_y rfl ?_)) | refine l_ends ?_)
    · have hjT : j.1 < T.length := by omega
      have e1 : (T.getD j.1 dR).1 = l.getD j.1 [] := by rw [getG_fst, hT]
      refine e_round (j.1 + 1, j.2 ++ [(iotaR (kR l k j.1) (l.getD j.1 []).length, (T.getD j.1 dR).2.1, H')]) ⟨by dsimp only; omega, by dsimp only; rw [List.map_append, hj2, markRegs_take l k (by omega)]; rfl, fun t ht => ?_⟩ ⟨slook_to rfl (vint_to (by push_cast; rfl)), slook_to rfl (vint_to (by rw [hks])), (by repeat' first | exact trivial | refine ⟨rfl, ?_⟩)⟩ (fun w hw => ?_) (by dsimp only; omega)
      · rcases List.mem_append.1 ht with ht | ht
        · exact hj3 t ht
        · rw [List.mem_singleton] at ht
          subst ht
          exact hu
      · have hw2 : SSt _ _ [[], tpiece (T.drop (j.1 + 1)), [(b0, srow (tcells eReg (j.2 ++ T.drop j.1) ++ r) 34)], tpiece j.2, H', G] w := hw
        have ecat2 : tcells eReg ((j.2 ++ [(iotaR (kR l k j.1) (l.getD j.1 []).length, (T.getD j.1 dR).2.1, H')]) ++ T.drop (j.1 + 1)) ++ r = tcells eReg (j.2 ++ T.drop j.1) ++ r := by
          rw [drop_getG (d := dR) hjT, tcells_append, tcells_append, tcells_one, tcells_append, tcells_cons]
          simp only [List.append_assoc]
          rfl
        dsimp only
        rw [ecat2, tpiece_append, tpiece_one]
        refine hw2.perm ?_
        simp only [List.flatten_cons, List.flatten_nil, List.append_nil, List.nil_append]
        refine (List.perm_append_comm_assoc ..).trans (List.Perm.append_left _ ?_)
        refine (List.perm_append_comm_assoc ..).trans ?_
        rw [List.append_assoc]
        refine List.Perm.append_left _ ?_
        exact List.perm_append_comm_assoc ..
    · have e : j.1 = l.length := by omega
      have hd0 : T.drop j.1 = [] := List.drop_of_length_le (by omega)
      rw [e, List.take_of_length_le (by rw [markRegs_length]; omega)] at hj2
      rw [hd0, List.append_nil] at hlen
      refine s_leave1 rfl rfl (fun w hw => ⟨_, [(b0, srow (tcells eReg j.2 ++ r) 34)] ++ (tpiece j.2 ++ G), [], rfl, ⟨by rw [e], ?_, rfl⟩, ?_⟩)
      · have o := OElems.ofTri (e := eReg) (U := 34) (T := j.2) (G := G) (OVec.blk (k := 1) (T := 34) b0 j.2.length cap (tcells eReg j.2) r (hcl _) hlen (by omega) hcm) hj3
        rw [hj2, hjl, e] at o
        exact o
      · have hw2 : SSt _ _ [[(b0, srow (tcells eReg (j.2 ++ T.drop j.1) ++ r) 34)], tpiece j.2, tpiece (T.drop j.1), G] w := hw
        rw [hd0, List.append_nil] at hw2
        refine hw2.perm ?_
        simp [tpiece]
set_option maxHeartbeats 2000000 in
theorem c_heldRegs (v : Value) (l : List (List DRect)) (k : Int) (W : World) (hv : RS eReg W v (markRegs l k)) (hk : 0 ≤ k ∧ k ≤ 1000000000) (hl : regsLen l ≤ 1048576) :
    SYields Try.prog 136 #[v, .int .i64 k] (.int .i64 (kR l k l.length)) W := by
  obtain ⟨ds, hv⟩ := hv
  have hlm := markRegs_length l k
  have hln : l.length ≤ regsLen l := by unfold regsLen; omega
  have hke := kR_end l k
  have hkb := fun j (h : j ≤ l.length) => kR_bd (k := k) h
  have hks := kR_succ l k
  have hlr := hv.row.len
  rw [hlm] at hlr
  have hrow : RRow W v 1 l.length (fun i => [ds i]) := RRow.congr hv.row hlm.symm (fun i hi => rfl)
  have hrd : ∀ i, i < l.length → RRects W (ds i) (iotaR (kR l k i) (l.getD i []).length) := fun i hi => by
    have := hv.rd i (by rw [hlm]; exact hi)
    rw [eReg_dflt, markRegs_get l k hi] at this; exact this
  (first | apply SYields.mk | apply SYieldsF.mk | skip); refine s_enter Try.func136 rfl Try.ntmps136 rfl ?_
  repeat' (first | exact rfl | (apply kO; (first | exact ov_pure rfl | (apply kOBin; (first | exact aBin)) | (apply kOCall; (first | (apply kCallF; (first | exact (ov_call rfl (fun w hw => c_heldRectS _ _ (l.getD j []).length w (RVs.keep (hrd j (by omega)) (hw.cells rfl)) (by have q1 := hkb j (by omega); have q2 := hkb (j + 1) (by omega); have q3 := hks j; omega))))) | (apply kCallB; (first | exact aBlt | exact (ov_lenR (fun w hw => hrow.keep (hw.cells rfl)) rfl) | exact aLenR)))) | (apply kOLoad; (first | exact (ov_ldR0 (fun w hw => hrow.keep (hw.cells rfl)) rfl rfl (by omega) rfl) | exact (ov_ldR (fun w hw => hrow.keep (hw.cells rfl)) rfl rfl (by omega) rfl) | exact aLdF | exact aLdR)) | exact ov_fieldAddr rfl | (apply kOIdx; (first | exact (ov_idxR (fun w hw => hrow.keep (hw.cells rfl)) rfl rfl (by omega)) | exact aIdx)) | exact aRest | exact aNew | exact (ov_field1 (ft := 37) rfl rfl rfl rfl))) | (refine kN ?_; (first | (refine kStore ?_; (first | refine s_store1 _ rfl rfl gpA rfl (by rfl) ?_ | refine s_storeS _ rfl rfl gpA rfl rfl (by rfl) ?_ | refine s_storeS _ rfl rfl gpA rfl (ones_img oiA) (by rfl) ?_)) | refine s_boxS rfl rfl (fun b hb => ?_) | refine s_allocS rfl (fun b hb => ?_) | refine s_box1 rfl rfl rfl (fun b hb => ?_) | refine s_alloc1 rfl rfl (fun b hb => ?_) | refine s_buildSlice0 rfl (fun b hb => ?_) | refine s_buildSlice rfl rfl rfl rfl rfl (fun b hb => ?_) | apply s_step)) | (refine kG ?_; (first | refine s_gyes rfl rfl rfl ?_ | refine s_gno rfl rfl rfl rfl rfl ?_ | ((first | refine s_split_d rfl rfl (fun h => ?_) (fun h => ?_) | refine s_split_n rfl rfl (fun h => ?_) (fun h => ?_)) <;> (try (first | contradiction | (exfalso; omega) | (exfalso; (exfalso; have q1 := hkb j (by omega); have q2 := hkb (j + 1) (by omega); have q3 := hks j; omega))))) | refine s_split_nb rfl rfl (fun h => ?_) (fun h => ?_) | refine s_split rfl rfl (fun h => ?_) (fun h => ?_))) | refine l_then ?_ | (refine kC ?_; (first | (refine c_loopV (ι := Nat) (fun j => j ≤ l.length) (fun j => [(1, .int .i64 (kR l k j)), (5, .int .i64 (j : Int))]) (fun _ => []) (fun j => l.length - j) 0 (by omega) rfl (fun _ => rfl) ⟨slook_to rfl (vint_to (kR_zero l k).symm), rfl, trivial⟩ (fun w hw => hw) (fun j hj => ?_)) | refine c_seq ?_ | refine c_regionN rfl ?_ | refine c_ret ?_ | (refine kCond ?_; (first | refine c_cond_t rfl ?_ | refine c_cond_f rfl ?_ | ((first | refine c_cond_d rfl (fun h => ?_) (fun h => ?_) | refine c_cond_n rfl (fun h => ?_) (fun h => ?_)) <;> (try (first | contradiction | (exfalso; omega) | (exfalso; (exfalso; have q1 := hkb j (by omega); have q2 := hkb (j + 1) (by omega); have q3 := hks j; omega))))) | refine c_cond_nb rfl (fun h => ?_) (fun h => ?_) | refine c_cond rfl (fun h => ?_) (fun h => ?_))) | refine c_block ?_ | refine c_skip ?_ | refine c_exit ?_ | refine c_regionQN rfl rfl (by decide +kernel) ?_)) | apply s_stepQ | (refine kQG ?_; (first | refine s_gyesQ rfl rfl rfl ?_ | refine s_gnoQ rfl rfl rfl rfl rfl ?_ | ((first | refine s_splitQ_d rfl rfl (fun h => ?_) (fun h => ?_) | refine s_splitQ_n rfl rfl (fun h => ?_) (fun h => ?_)) <;> (try (first | contradiction | (exfalso; omega) | (exfalso; (exfalso; have q1 := hkb j (by omega); have q2 := hkb (j + 1) (by omega); have q3 := hks j; omega))))) | refine s_splitQ_nb rfl rfl (fun h => ?_) (fun h => ?_) | refine s_splitQ rfl rfl (fun h => ?_) (fun h => ?_))) | refine lQ_then ?_ | refine lQ_ends ?_ | (refine kE ?_; (first | refine e_then_r ?_ | refine e_block_r ?_ | refine e_then_n ?_ | refine e_then_x ?_ | refine e_block_n ?_ | refine e_block_x ?_ | refine e_block_y rfl ?_)) | refine l_ends ?_)
  all_goals try simp only [Int.toNat_natCast] at *
  · exact e_round (j + 1) (by omega) ⟨slook_to rfl (vint_to (by rw [hks])), rfl, (by repeat' first | exact trivial | refine ⟨rfl, ?_⟩)⟩ (fun w hw => hw) (by omega)
  · exact s_leave1 rfl rfl (fun w hw => ⟨ret_int (by rw [show j = l.length by omega]), hw.below⟩)
/-! ### chains -/
def kC1 (c : DChain) (k : Int) : Int := kI c.bufs k c.bufs.length
def kC2 (c : DChain) (k : Int) : Int := kC1 c k + c.ages.length
def kC3 (c : DChain) (k : Int) : Int := kR c.dams (kC2 c k) c.dams.length
def kC4 (c : DChain) (k : Int) : Int := kC3 c k + 9 * c.scene.ss.length + surfsLen c.scene.ss
def markCh (c : DChain) (k : Int) : DChain := ⟨markImgs c.bufs k, iota (kC1 c k) c.ages.length, markRegs c.dams (kC2 c k), { c.scene with ss := markSurfs c.scene.ss (kC3 c k) }⟩
theorem kC_bd {c : DChain} {k : Int} (hl : chainLen c ≤ 1048576) : (k ≤ kC1 c k ∧ kC1 c k ≤ k + 2097152) ∧ (kC1 c k ≤ kC2 c k ∧ kC2 c k ≤ k + 4194304) ∧ (kC2 c k ≤ kC3 c k ∧ kC3 c k ≤ k + 10000000) ∧ (kC3 c k ≤ kC4 c k ∧ kC4 c k ≤ k + 30000000) := by
  have h1 := kI_end c.bufs k
  have h2 := kR_end c.dams (kC2 c k)
  have h3 : c.bufs.length ≤ imgsLen c.bufs := by unfold imgsLen; omega
  have h4 : c.scene.ss.length ≤ surfsLen c.scene.ss := Nat.le_add_right _ _
  unfold chainLen at hl
  have e1 : kC1 c k = kI c.bufs k c.bufs.length := rfl
  have e2 : kC2 c k = kC1 c k + c.ages.length := rfl
  have e3 : kC3 c k = kR c.dams (kC2 c k) c.dams.length := rfl
  have e4 : kC4 c k = kC3 c k + 9 * c.scene.ss.length + surfsLen c.scene.ss := rfl
  omega
theorem OChain.inv {c e : DChain} {b a d s : Value} {H : SPiece} (h : OChain (vChain e b a d s) c H) : ∃ Hb Ha Hd Hs, OElems eImg 39 b c.bufs Hb ∧ OInts 3 a c.ages Ha ∧ OElems eReg 34 d c.dams Hd ∧ OElems eSurf 62 s c.scene.ss Hs ∧ H = [Hs, Hd, Ha, Hb].flatten := by
  obtain ⟨b', a', d', s', Hb, Ha, Hd, Hs, e, o1, o2, o3, o4, rfl⟩ := h
  simp only [Value.agg.injEq, Array.mk.injEq, List.cons.injEq, and_true] at e
  obtain ⟨rfl, rfl, rfl, -, -, -, rfl⟩ := e
  exact ⟨_, _, _, _, o1, o2, o3, o4, rfl⟩
theorem OChain.rd {c e : DChain} {b a d s : Value} {H : SPiece} (h : OChain (vChain e b a d s) c H) {w : World} (hw : Holds w H) : RCh w c b a d s := by
  obtain ⟨Hb, Ha, Hd, Hs, o1, o2, o3, o4, rfl⟩ := h.inv
  exact ⟨o1.rs (hw.sub (i := 3) rfl), OInts.reads o2 (hw.sub (i := 2) rfl), o3.rs (hw.sub (i := 1) rfl), o4.rs (hw.sub (i := 0) rfl)⟩
theorem OChain.form {u : Value} {c : DChain} {H : SPiece} (h : OChain u c H) : ∃ b a d s, u = vChain c b a d s := by
  obtain ⟨b', a', d', s', Hb, Ha, Hd, Hs, e, o1, o2, o3, o4, rfl⟩ := h
  exact ⟨_, _, _, _, e⟩
set_option maxHeartbeats 2000000 in
theorem c_markChain (c : DChain) (vb va vd vs : Value) (H : SPiece) (k : Int) (W : World) (hv : OChain (vChain c vb va vd vs) c H) (hH : Holds W H) (hn : H.keys.Nodup) (hk : 0 ≤ k ∧ k ≤ 900000000) (hl : chainLen c ≤ 1048576) :
    SYieldsG Try.prog 62 #[vChain c vb va vd vs, .int .i64 k] H (fun u H' F => u = .int .i64 (kC4 c k) ∧ OChain (vChain c vb va vd vs) (markCh c k) H' ∧ F = []) W := by
  obtain ⟨Hb, Ha, Hd, Hs, o1, o2, o3, o4, rfl⟩ := hv.inv
  have hkb := kC_bd (k := k) hl
  have hcl : chainLen c = imgsLen c.bufs + c.ages.length + regsLen c.dams + surfsLen c.scene.ss := rfl
  have h4 : c.scene.ss.length ≤ surfsLen c.scene.ss := Nat.le_add_right _ _
  refine SYieldsG.mk (s_enterM Try.func62 rfl Try.ntmps62 rfl hH hn ?_)
  refine c_regroup (L' := [Hs, Hd, Ha, Hb]) (fun w hw => hw.perm (by simp)) ?_
  repeat' (first | exact rfl | (apply kO; (first | exact ov_pure rfl | (apply kOBin; (first | exact aBin)) | (apply kOCall; (first | (apply kCallB; (first | exact aBlt | exact aLenR)))) | (apply kOLoad; (first | exact aLdF | exact aLdR)) | exact ov_fieldAddr rfl | (apply kOIdx; (first | exact aIdx)) | exact aRest | exact aNew | exact (ov_field1 (ft := 37) rfl rfl rfl rfl))) | (refine kN ?_; (first | (refine kCall ?_; (first | (refine kWFn 133 ?_; (refine s_callG _ (H := Hb) (fun u H' F => u = .int .i64 (kC1 c k) ∧ OElems eImg 39 vb (markImgs c.bufs k) H' ∧ F = []) rfl gpA (fun w hw hh hn => c_markImgs vb c.bufs Hb k w o1 hh hn (by omega) (by omega)) rfl (fun u H1 F hu => ?_); obtain ⟨rfl, hu1, rfl⟩ := hu)) | (refine kWFn 99 ?_; (refine s_callG _ (H := Ha) (fun u H' F => u = .int .i64 (kC2 c k) ∧ OInts 3 va (iota (kC1 c k) c.ages.length) H' ∧ F = []) rfl gpA (fun w hw hh hn => c_markIntS va c.ages Ha (kC1 c k) w o2 hh hn (by omega)) rfl (fun u H2 F hu => ?_); obtain ⟨rfl, hu2, rfl⟩ := hu)) | (refine kWFn 134 ?_; (refine s_callG _ (H := Hd) (fun u H' F => u = .int .i64 (kC3 c k) ∧ OElems eReg 34 vd (markRegs c.dams (kC2 c k)) H' ∧ F = []) rfl gpA (fun w hw hh hn => c_markRegs vd c.dams Hd (kC2 c k) w o3 hh hn (by omega) (by omega)) rfl (fun u H3 F hu => ?_); obtain ⟨rfl, hu3, rfl⟩ := hu)) | (refine kWFn 61 ?_; (refine s_callG _ (H := Hs) (fun u H' F => u = .int .i64 (kC4 c k) ∧ OElems eSurf 62 vs (markSurfs c.scene.ss (kC3 c k)) H' ∧ F = []) rfl gpA (fun w hw hh hn => c_markSceneX c.scene vs Hs (kC3 c k) w o4 hh hn (by omega) (by omega)) rfl (fun u H4 F hu => ?_); obtain ⟨rfl, hu4, rfl⟩ := hu)) | apply s_step)) | (refine kStore ?_; (first | refine s_store1 _ rfl rfl gpA rfl (by rfl) ?_ | refine s_storeS _ rfl rfl gpA rfl rfl (by rfl) ?_ | refine s_storeS _ rfl rfl gpA rfl (ones_img oiA) (by rfl) ?_)) | refine s_boxS rfl rfl (fun b hb => ?_) | refine s_allocS rfl (fun b hb => ?_) | refine s_box1 rfl rfl rfl (fun b hb => ?_) | refine s_alloc1 rfl rfl (fun b hb => ?_) | refine s_buildSlice0 rfl (fun b hb => ?_) | refine s_buildSlice rfl rfl rfl rfl rfl (fun b hb => ?_) | apply s_step)) | (refine kG ?_; (first | refine s_gyes rfl rfl rfl ?_ | refine s_gno rfl rfl rfl rfl rfl ?_ | ((first | refine s_split_d rfl rfl (fun h => ?_) (fun h => ?_) | refine s_split_n rfl rfl (fun h => ?_) (fun h => ?_)) <;> (try (first | contradiction | (exfalso; omega)))) | refine s_split_nb rfl rfl (fun h => ?_) (fun h => ?_) | refine s_split rfl rfl (fun h => ?_) (fun h => ?_))) | refine l_then ?_ | (refine kC ?_; (first | refine c_seq ?_ | refine c_regionN rfl ?_ | refine c_ret ?_ | (refine kCond ?_; (first | refine c_cond_t rfl ?_ | refine c_cond_f rfl ?_ | ((first | refine c_cond_d rfl (fun h => ?_) (fun h => ?_) | refine c_cond_n rfl (fun h => ?_) (fun h => ?_)) <;> (try (first | contradiction | (exfalso; omega)))) | refine c_cond_nb rfl (fun h => ?_) (fun h => ?_) | refine c_cond rfl (fun h => ?_) (fun h => ?_))) | refine c_block ?_ | refine c_skip ?_ | refine c_exit ?_ | refine c_regionQN rfl rfl (by decide +kernel) ?_)) | apply s_stepQ | (refine kQG ?_; (first | refine s_gyesQ rfl rfl rfl ?_ | refine s_gnoQ rfl rfl rfl rfl rfl ?_ | ((first | refine s_splitQ_d rfl rfl (fun h => ?_) (fun h => ?_) | refine s_splitQ_n rfl rfl (fun h => ?_) (fun h => ?_)) <;> (try (first | contradiction | (exfalso; omega)))) | refine s_splitQ_nb rfl rfl (fun h => ?_) (fun h => ?_) | refine s_splitQ rfl rfl (fun h => ?_) (fun h => ?_))) | refine lQ_then ?_ | refine lQ_ends ?_ | (refine kE ?_; (first | refine e_then_r ?_ | refine e_block_r ?_ | refine e_then_n ?_ | refine e_then_x ?_ | refine e_block_n ?_ | refine e_block_x ?_ | refine e_block_y rfl ?_)) | refine l_ends ?_)
  all_goals refine s_leave1 rfl rfl (fun w hw => ⟨_, [H4, H3, H2, H1].flatten, [], rfl, ⟨rfl, ⟨_, _, _, _, _, _, _, _, rfl, hu1, hu2, hu3, hu4, rfl⟩, rfl⟩, ?_⟩)
  all_goals exact (hw.sub (selO_sub [false, false, false, false, false, true, true, true, true] _ _ rfl)).perm (by simp)
section
variable {n : Nat} {lo : SMut} {s : World} {ops : Array Oper} {Q : Exit → Act → World → Prop} {E : SEnv} {L : SHeap} {dd : Nat} {ty : TypeId} {pos : String} {after : Array Edge} {rest : List Oper}
theorem s_markChain (i : Nat) (c : DChain) {b a d u : Value} {k : Int} {H : SPiece} {args : List Operand} {ts : Array TypeId} (ha : svals E args = some [vChain c b a d u, .int .i64 k]) (hv : OChain (vChain c b a d u) c H) (hL : getL L i = some H) (hk : 0 ≤ k ∧ k ≤ 900000000) (hl : chainLen c ≤ 1048576) (hd : Nat.blt dd n = true)
    (q : ∀ H', OChain (vChain c b a d u) (markCh c k) H' → WPL Try.prog n lo s ops Q rest ((dd, .int .i64 (kC4 c k)) :: E) ([] :: setL L i H')) :
    WPL Try.prog n lo s ops Q (⟨some dd, .call { callee := .value (.func 62), args := args.toArray, argTypes := ts }, ty, pos, after, none⟩ :: rest) E L :=
  s_callG i (fun v' H' F => v' = .int .i64 (kC4 c k) ∧ OChain (vChain c b a d u) (markCh c k) H' ∧ F = []) ha hL (fun w hw hh hn => c_markChain c b a d u H k w hv hh hn hk hl) hd (fun v' H' F hu => by obtain ⟨rfl, hu, rfl⟩ := hu; exact q H' hu)
end
set_option maxHeartbeats 2000000 in
theorem c_heldChain (c : DChain) (vb va vd vs : Value) (k : Int) (W : World) (hv : RCh W (markCh c k) vb va vd vs) (hk : 0 ≤ k ∧ k ≤ 900000000) (hl : chainLen c ≤ 1048576) :
    SYields Try.prog 63 #[vChain c vb va vd vs, .int .i64 k] (.int .i64 (kC4 c k)) W := by
  obtain ⟨r1, r2, r3, r4⟩ := hv
  have hkb := kC_bd (k := k) hl
  have hcl : chainLen c = imgsLen c.bufs + c.ages.length + regsLen c.dams + surfsLen c.scene.ss := rfl
  have h4 : c.scene.ss.length ≤ surfsLen c.scene.ss := Nat.le_add_right _ _
  have ha : heldI (iota (kC1 c k) c.ages.length) (kC1 c k) = kC2 c k := heldI_mark _ _
  (first | apply SYields.mk | apply SYieldsF.mk | skip); refine s_enter Try.func63 rfl Try.ntmps63 rfl ?_
  repeat' (first | exact rfl | (apply kO; (first | exact ov_pure rfl | (apply kOBin; (first | exact aBin)) | (apply kOCall; (first | (apply kCallB; (first | exact aBlt | exact aLenR)))) | (apply kOLoad; (first | exact aLdF | exact aLdR)) | exact ov_fieldAddr rfl | (apply kOIdx; (first | exact aIdx)) | exact aRest | exact aNew | exact (ov_field1 (ft := 37) rfl rfl rfl rfl))) | (refine kN ?_; (first | (refine kCall ?_; (first | (refine kWFn 135 ?_; (refine s_step (ov_call rfl (fun w hw => (show SYields Try.prog 135 #[vb, .int .i64 k] (.int .i64 (kC1 c k)) w from c_heldImgs vb c.bufs k w (r1.keep (hw.cells rfl)) (by omega) (by omega)))) rfl ?_)) | (refine kWFn 100 ?_; (refine s_step (ov_call rfl (fun w hw => (show SYields Try.prog 100 #[va, .int .i64 (kC1 c k)] (.int .i64 (kC2 c k)) w from by rw [← ha]; exact c_heldIntS va (iota (kC1 c k) c.ages.length) (kC1 c k) w (r2.keep (hw.cells rfl)) (by rw [iota_length]; omega)))) rfl ?_)) | (refine kWFn 136 ?_; (refine s_step (ov_call rfl (fun w hw => (show SYields Try.prog 136 #[vd, .int .i64 (kC2 c k)] (.int .i64 (kC3 c k)) w from c_heldRegs vd c.dams (kC2 c k) w (r3.keep (hw.cells rfl)) (by omega) (by omega)))) rfl ?_)) | (refine kWFn 137 ?_; (refine s_step (ov_call rfl (fun w hw => (show SYields Try.prog 137 #[vScene c.scene vs, .int .i64 (kC3 c k)] (.int .i64 (kC4 c k)) w from c_heldScene c.scene vs (kC3 c k) w (r4.keep (hw.cells rfl)) (by omega) (by omega)))) rfl ?_)) | apply s_step)) | (refine kStore ?_; (first | refine s_store1 _ rfl rfl gpA rfl (by rfl) ?_ | refine s_storeS _ rfl rfl gpA rfl rfl (by rfl) ?_ | refine s_storeS _ rfl rfl gpA rfl (ones_img oiA) (by rfl) ?_)) | refine s_boxS rfl rfl (fun b hb => ?_) | refine s_allocS rfl (fun b hb => ?_) | refine s_box1 rfl rfl rfl (fun b hb => ?_) | refine s_alloc1 rfl rfl (fun b hb => ?_) | refine s_buildSlice0 rfl (fun b hb => ?_) | refine s_buildSlice rfl rfl rfl rfl rfl (fun b hb => ?_) | apply s_step)) | (refine kG ?_; (first | refine s_gyes rfl rfl rfl ?_ | refine s_gno rfl rfl rfl rfl rfl ?_ | ((first | refine s_split_d rfl rfl (fun h => ?_) (fun h => ?_) | refine s_split_n rfl rfl (fun h => ?_) (fun h => ?_)) <;> (try (first | contradiction | (exfalso; omega) | (exfalso; (exfalso; omega))))) | refine s_split_nb rfl rfl (fun h => ?_) (fun h => ?_) | refine s_split rfl rfl (fun h => ?_) (fun h => ?_))) | refine l_then ?_ | (refine kC ?_; (first | refine c_seq ?_ | refine c_regionN rfl ?_ | refine c_ret ?_ | (refine kCond ?_; (first | refine c_cond_t rfl ?_ | refine c_cond_f rfl ?_ | ((first | refine c_cond_d rfl (fun h => ?_) (fun h => ?_) | refine c_cond_n rfl (fun h => ?_) (fun h => ?_)) <;> (try (first | contradiction | (exfalso; omega) | (exfalso; (exfalso; omega))))) | refine c_cond_nb rfl (fun h => ?_) (fun h => ?_) | refine c_cond rfl (fun h => ?_) (fun h => ?_))) | refine c_block ?_ | refine c_skip ?_ | refine c_exit ?_ | refine c_regionQN rfl rfl (by decide +kernel) ?_)) | apply s_stepQ | (refine kQG ?_; (first | refine s_gyesQ rfl rfl rfl ?_ | refine s_gnoQ rfl rfl rfl rfl rfl ?_ | ((first | refine s_splitQ_d rfl rfl (fun h => ?_) (fun h => ?_) | refine s_splitQ_n rfl rfl (fun h => ?_) (fun h => ?_)) <;> (try (first | contradiction | (exfalso; omega) | (exfalso; (exfalso; omega))))) | refine s_splitQ_nb rfl rfl (fun h => ?_) (fun h => ?_) | refine s_splitQ rfl rfl (fun h => ?_) (fun h => ?_))) | refine lQ_then ?_ | refine lQ_ends ?_ | (refine kE ?_; (first | refine e_then_r ?_ | refine e_block_r ?_ | refine e_then_n ?_ | refine e_then_x ?_ | refine e_block_n ?_ | refine e_block_x ?_ | refine e_block_y rfl ?_)) | refine l_ends ?_)
  all_goals refine s_leave1 rfl rfl (fun w hw => ⟨?_, hw.below⟩)
  all_goals first | rfl | (exfalso; omega)
end Go.Proofs.Ytakijgpoaeggnaa
/-
  A chain's own cells hold one value each.
-/
set_option linter.unusedVariables false
namespace Go.Proofs.Ytakijgpoaeggnaa
open Go Sx
theorem OChain.ones {c e : DChain} {b a d s : Value} {H : SPiece} (h : OChain (vChain e b a d s) c H) : oneCells [b, a, d, .int .i64 e.scene.W, .int .i64 e.scene.H, .int .i64 e.scene.Back, s] = true := by
  obtain ⟨Hb, Ha, Hd, Hs, o1, o2, o3, o4, rfl⟩ := h.inv
  exact ones_cons o1.one (ones_cons o2.one (ones_cons o3.one (ones_cons rfl (ones_cons rfl (ones_cons rfl (ones_cons o4.one rfl))))))
end Go.Proofs.Ytakijgpoaeggnaa
/-
  Structs of numbers held against one another. Nothing of any one program.
-/
set_option linter.unusedVariables false
namespace Sx
open Go
/-- these fields are numbers, one after the other from this place on -/
def intFields (P : Program) : Nat → List Field → Bool
  | _, [] => true
  | o, f :: fs => (f.name != "_") && (f.offset == o) && (match P.underlying f.type with | some (.int _) => true | _ => false) && intFields P (o + 1) fs
def eqIntsB (P : Program) (t : TypeId) (k : Nat) : Bool :=
  (match P.underlying t with | some (.struct fs) => fs.size == k && intFields P 0 fs.toList | _ => false) && !P.stoodInHeld t && !P.eqGuardType P.depth t
class SEqI (P : Program) (t : TypeId) (k : Nat) : Prop where
  h : eqIntsB P t k = true
theorem part_int {P : Program} {t : TypeId} {kk : IntKind} (h : P.underlying t = some (.int kk)) {l : List Value} {o : Nat} {v : Value} (hv : l[o]? = some v) (w : World) : (part t l.toArray o).run P w = .ok v w := by
  simp [part, isAgg, run_underlying h, hv]
theorem eqFields_ints {P : Program} (d : Nat) (w : World) : ∀ (fs : List Field) (o : Nat) (p q a c : List Int), p.length = o → q.length = o → fs.length = a.length → a.length = c.length → intFields P o fs = true →
    (Op.eqFields (d + 1) (ivals (p ++ a)).toArray (ivals (q ++ c)).toArray fs).run P w = .ok (decide (a = c)) w
  | [], o, p, q, a, c, _, _, hl, hl2, _ => by
    have h1 : a = [] := List.eq_nil_of_length_eq_zero hl.symm
    subst h1
    have h2 : c = [] := List.eq_nil_of_length_eq_zero hl2.symm
    subst h2
    simp [Op.eqFields]
  | f :: fs, o, p, q, [], c, _, _, hl, _, _ => by simp at hl
  | f :: fs, o, p, q, x :: a, [], _, _, _, hl2, _ => by simp at hl2
  | f :: fs, o, p, q, x :: a, y :: c, hp, hq, hl, hl2, hf => by
    simp only [intFields, Bool.and_eq_true, bne_iff_ne, beq_iff_eq] at hf
    obtain ⟨⟨⟨h1, h2⟩, h3⟩, h4⟩ := hf
    obtain ⟨kk, hk⟩ : ∃ kk, P.underlying f.type = some (.int kk) := by
      cases hu : P.underlying f.type with
      | none => simp [hu] at h3
      | some td => cases td <;> simp [hu] at h3; exact ⟨_, rfl⟩
    have g1 : (ivals (p ++ x :: a))[f.offset]? = some (.int .i64 x) := by rw [h2, ← hp]; simp [ivals]
    have g2 : (ivals (q ++ y :: c))[f.offset]? = some (.int .i64 y) := by rw [h2, ← hq]; simp [ivals]
    have ih := eqFields_ints d w fs (o + 1) (p ++ [x]) (q ++ [y]) a c (by simp [hp]) (by simp [hq]) (by simpa using hl) (by simpa using hl2) h4
    rw [List.append_assoc, List.append_assoc] at ih
    simp only [List.singleton_append] at ih
    unfold Op.eqFields
    rw [if_pos h1]
    simp only [Sem.run_bind, part_int hk g1, part_int hk g2, Result.andThen_ok, run_equalIn_int w d f.type .i64 kk x y hk]
    by_cases e : x = y
    · subst e
      simp only [beq_self_eq_true, Bool.not_true, Bool.false_eq_true, if_false, ih, List.cons.injEq, true_and]
    · simp [e]
section
variable {P : Program} {n : Nat} {lo : SMut} {s : World} {E : SEnv} {L : SHeap} {d : Option Tmp} {ty : TypeId} {pos : String} {after : Array Edge} {g : Option (Nat × Bool)} {x y : Operand} {xt yt : TypeId}
theorem equal_ints {P : Program} {t : TypeId} {k : Nat} [hk : SEqI P t k] (d : Nat) {a c : List Int} (ha : a.length = k) (hc : c.length = k) (w : World) : (Op.equalIn (d + 2) t (.agg (ivals a).toArray) (.agg (ivals c).toArray)).run P w = .ok (decide (a = c)) w := by
  have h := hk.h
  unfold eqIntsB at h
  simp only [Bool.and_eq_true, Bool.not_eq_true'] at h
  obtain ⟨⟨h1, h2⟩, h3⟩ := h
  have h4 : P.underlying t = some (.struct (P.fieldsOf t)) ∧ (P.fieldsOf t).size = k ∧ intFields P 0 (P.fieldsOf t).toList = true := by
    unfold Program.fieldsOf
    cases hu : P.underlying t with
    | none => simp [hu] at h1
    | some td => cases td <;> simp [hu] at h1 ⊢; exact h1
  rw [run_equalIn_struct w (d + 1) t _ _ h4.1 h2]
  exact eqFields_ints d w _ 0 [] [] a c rfl rfl (by rw [Array.length_toList, h4.2.1, ha]) (by rw [ha, hc]) h4.2.2
theorem ov_neqI {k : Nat} [hk : SEqI P xt k] {a c : List Int} (hx : sval E x = some (.agg (ivals a).toArray)) (hy : sval E y = some (.agg (ivals c).toArray)) (ha : a.length = k) (hc : c.length = k) : SOpV P n lo s E L ⟨d, .binOp .neq xt x y yt, ty, pos, after, g⟩ (.bool (!decide (a = c))) :=
  SOpV.of_run fun q hq w hw => by
    have h := hk.h
    unfold eqIntsB at h
    simp only [Bool.and_eq_true, Bool.not_eq_true'] at h
    simp only [execOp, hq.sval hx, hq.sval hy, Sem.run_bind, run_eqGuard_agg w .neq xt x y _ _ h.2, Result.andThen_ok, run_neq_struct, equal_ints 9998 ha hc w]
    rfl
end
end Sx
namespace Go.Proofs.Ytakijgpoaeggnaa
open Go Sx
instance : SEqI Try.prog 73 4 := ⟨by kernel_rfl⟩
def rectL (r : DRect) : List Int := [r.X, r.Y, r.W, r.H]
theorem rectL_inj {r q : DRect} : rectL r = rectL q ↔ r = q := by
  constructor
  · intro h; cases r; cases q; simp [rectL] at h; simp [h]
  · intro h; rw [h]
theorem rectL_dec (r q : DRect) : decide (rectL r = rectL q) = decide (r = q) := decide_eq_decide.2 rectL_inj
section
variable {n : Nat} {lo : SMut} {s : World} {E : SEnv} {L : SHeap} {d : Option Tmp} {ty : TypeId} {pos : String} {after : Array Edge} {g : Option (Nat × Bool)} {x y : Operand} {yt : TypeId}
theorem ov_neRect {r q : DRect} (hx : sval E x = some (vRect r)) (hy : sval E y = some (vRect q)) : SOpV Try.prog n lo s E L ⟨d, .binOp .neq 73 x y yt, ty, pos, after, g⟩ (.bool (!decide (r = q))) := by
  rw [← rectL_dec]; exact ov_neqI (k := 4) (a := rectL r) (c := rectL q) hx hy rfl rfl
end
end Go.Proofs.Ytakijgpoaeggnaa
/-
  Contracts: faded pixels; places in oriented and in scaled pictures.
-/
set_option linter.unusedVariables false
namespace Go.Proofs.Ytakijgpoaeggnaa
open Go Sx
attribute [local irreducible] Exit.then Exit.inBlock bodyPost
end Go.Proofs.Ytakijgpoaeggnaa
/-
  Contracts: a pixel over another one; new images.
-/
set_option linter.unusedVariables false
namespace Go.Proofs.Ytakijgpoaeggnaa
open Go Sx
attribute [local irreducible] Exit.then Exit.inBlock bodyPost
/-- the first channels of a pixel over another one -/
def ovk (t c : Int) : Nat → Int
  | 0 => 255
  | k + 1 => ovk t c k * 256 + (prt (chan t ((k : Int) + 1)) (chan t 0) + prt (chan c ((k : Int) + 1)) (255 - chan t 0))
theorem c_inewImage (p q r : Int) (W : World) (hp : 1 ≤ p ∧ p ≤ 16) (hq : 1 ≤ q ∧ q ≤ 16) (hr : pixP r) : SYieldsF Try.prog 130 #[.int .i64 p, .int .i64 q, .int .i64 r] (fun u H => OImg u ⟨p, q, List.replicate (p * q).toNat r⟩ H) W := by
  have hwh := side_mul (w := p) (h := q) ⟨hp.1, hp.2, hq.1, hq.2⟩
  have hr' := hr
  unfold pixP at hr'
  (first | apply SYields.mk | apply SYieldsF.mk | skip); refine s_enter Try.func130 rfl Try.ntmps130 rfl ?_
  repeat' (first | exact rfl | (apply kO; (first | exact ov_pure rfl | (apply kOBin; (first | exact aBin)) | (apply kOCall; (first | (apply kCallF; (first | exact (ov_call rfl (fun w hw => c_isSide _ w)) | exact (ov_call rfl (fun w hw => c_isPixel _ w)))) | (apply kCallB; (first | exact aBlt | exact aLenR)))) | (apply kOLoad; (first | exact aLdF | exact aLdR)) | exact ov_fieldAddr rfl | (apply kOIdx; (first | exact aIdx)) | exact aRest | exact aNew | exact (ov_field1 (ft := 37) rfl rfl rfl rfl))) | (refine kN ?_; (first | (refine kCall ?_; (first | (refine kWFn 181 ?_; (refine s_callF (fun u H => OInts 3 u (List.replicate (p * q).toNat r) H) rfl (fun w hw => c_repeat _ r (p * q) w (OInts.reads (OInts.whole 3 _ [r] (Nat.le_of_ble_eq_true rfl)) (hfA hw)) (by omega)) rfl (fun u H hu => ?_); have f4 := hu.form; obtain ⟨ga, gc, rfl⟩ := f4)) | apply s_step)) | (refine kStore ?_; (first | refine s_store1 _ rfl rfl gpA rfl (by rfl) ?_ | refine s_storeS _ rfl rfl gpA rfl rfl (by rfl) ?_ | refine s_storeS _ rfl rfl gpA rfl (ones_img oiA) (by rfl) ?_)) | refine s_boxS rfl rfl (fun b hb => ?_) | refine s_allocS rfl (fun b hb => ?_) | refine s_box1 rfl rfl rfl (fun b hb => ?_) | refine s_alloc1 rfl rfl (fun b hb => ?_) | refine s_buildSlice0 rfl (fun b hb => ?_) | refine s_buildSlice rfl rfl rfl rfl rfl (fun b hb => ?_) | apply s_step)) | (refine kG ?_; (first | refine s_gyes rfl rfl rfl ?_ | refine s_gno rfl rfl rfl rfl rfl ?_ | ((first | refine s_split_d rfl rfl (fun h => ?_) (fun h => ?_) | refine s_split_n rfl rfl (fun h => ?_) (fun h => ?_)) <;> (try (first | contradiction | (exfalso; omega)))) | refine s_split_nb rfl rfl (fun h => ?_) (fun h => ?_) | refine s_split rfl rfl (fun h => ?_) (fun h => ?_))) | refine l_then ?_ | (refine kC ?_; (first | refine c_seq ?_ | refine c_regionN rfl ?_ | refine c_ret ?_ | (refine kCond ?_; (first | refine c_cond_t rfl ?_ | refine c_cond_f rfl ?_ | ((first | refine c_cond_d rfl (fun h => ?_) (fun h => ?_) | refine c_cond_n rfl (fun h => ?_) (fun h => ?_)) <;> (try (first | contradiction | (exfalso; omega)))) | refine c_cond_nb rfl (fun h => ?_) (fun h => ?_) | refine c_cond rfl (fun h => ?_) (fun h => ?_))) | refine c_block ?_ | refine c_skip ?_ | refine c_exit ?_ | refine c_regionQN rfl rfl (by decide +kernel) ?_)) | apply s_stepQ | (refine kQG ?_; (first | refine s_gyesQ rfl rfl rfl ?_ | refine s_gnoQ rfl rfl rfl rfl rfl ?_ | ((first | refine s_splitQ_d rfl rfl (fun h => ?_) (fun h => ?_) | refine s_splitQ_n rfl rfl (fun h => ?_) (fun h => ?_)) <;> (try (first | contradiction | (exfalso; omega)))) | refine s_splitQ_nb rfl rfl (fun h => ?_) (fun h => ?_) | refine s_splitQ rfl rfl (fun h => ?_) (fun h => ?_))) | refine lQ_then ?_ | refine lQ_ends ?_ | (refine kE ?_; (first | refine e_then_r ?_ | refine e_block_r ?_ | refine e_then_n ?_ | refine e_then_x ?_ | refine e_block_n ?_ | refine e_block_x ?_ | refine e_block_y rfl ?_)) | refine l_ends ?_)
  all_goals (refine s_leaveSF rfl rfl rfl fwA (fun w hw => ⟨_, _, rfl, ⟨_, rfl, hu⟩, hw.toFresh (H := H) gpA⟩))
end Go.Proofs.Ytakijgpoaeggnaa
/-
  The program's grids: sixteen rows as numbers. Rules for their bits.
-/
set_option linter.unusedVariables false
namespace Go.Proofs.Ytakijgpoaeggnaa
open Go Sx
attribute [local irreducible] Exit.then Exit.inBlock bodyPost
def rowV (g : Grid) (y : Nat) : Value := .int .i64 (Sx.bits (g y) 16 : Nat)
abbrev gcells (g : Grid) : List Value := [rowV g 0, rowV g 1, rowV g 2, rowV g 3, rowV g 4, rowV g 5, rowV g 6, rowV g 7, rowV g 8, rowV g 9, rowV g 10, rowV g 11, rowV g 12, rowV g 13, rowV g 14, rowV g 15]
abbrev gval (g : Grid) : Value := .agg #[rowV g 0, rowV g 1, rowV g 2, rowV g 3, rowV g 4, rowV g 5, rowV g 6, rowV g 7, rowV g 8, rowV g 9, rowV g 10, rowV g 11, rowV g 12, rowV g 13, rowV g 14, rowV g 15]
def gl (g : Grid) : List Value := (List.range 16).map (rowV g)
theorem gl_eq (g : Grid) : gl g = gcells g := rfl
theorem gl_get (g : Grid) {y : Nat} (h : y < 16) : (gl g)[y]? = some (rowV g y) := by simp [gl, h]
theorem rowV_congr {g h : Grid} (e : g.eqv h) {y : Nat} (hy : y < 16) : rowV g y = rowV h y := by
  unfold rowV; rw [bits_congr 16 (fun i hi => e y i hy hi)]
theorem gl_congr {g h : Grid} (e : g.eqv h) : gl g = gl h := List.map_congr_left (fun y hy => rowV_congr e (List.mem_range.1 hy))
theorem gval_congr {g h : Grid} (e : g.eqv h) : gval g = gval h := by
  have := gl_congr e
  rw [gl_eq, gl_eq] at this
  show Value.agg (gcells g).toArray = Value.agg (gcells h).toArray
  rw [this]
def Grid.row (g : Grid) (y : Nat) (f : Nat → Bool) : Grid := fun b => if b = y then f else g b
theorem gl_set (g : Grid) {y : Nat} (hy : y < 16) (f : Nat → Bool) : (gl g).set y (.int .i64 (Sx.bits f 16 : Nat)) = gl (Grid.row g y f) := by
  apply List.ext_getElem?
  intro q
  rw [List.getElem?_set]
  by_cases hq : q < 16
  · rw [gl_get g hq, gl_get _ hq]
    unfold rowV Grid.row
    by_cases e : y = q
    · subst e; simp [gl, hy]
    · have e' : ¬ q = y := fun hh => e hh.symm
      simp [e, e']
  · have h1 : (gl g).length ≤ q := by simp [gl]; omega
    have h2 : (gl (Grid.row g y f)).length ≤ q := by simp [gl]; omega
    rw [List.getElem?_eq_none h1, List.getElem?_eq_none h2, if_neg (by omega)]
theorem bits16 (f : Nat → Bool) : 0 ≤ ((Sx.bits f 16 : Nat) : Int) ∧ ((Sx.bits f 16 : Nat) : Int) ≤ 65535 := by
  have := bits_lt f 16
  omega
section
variable {P : Program} {n : Nat} {lo : SMut} {s : World} {E : SEnv} {L : SHeap} {d : Option Tmp} {ty : TypeId} {pos : String} {after : Array Edge} {g0 : Option (Nat × Bool)} {x y : Operand} {xt yt : TypeId}
/-- an array of zeros -/
theorem ov_buildA0 {t e : TypeId} {len : Nat} {zl : List Value} {ze : Value} {k by_ ke be : Nat} [hu : SUnd P t (.array len e)] [hi : SInf P t (.agg zl.toArray) k by_] [he : SInf P e ze ke be] :
    SOpV P n lo s E L ⟨d, .build t #[], ty, pos, after, g0⟩ (.agg zl.toArray) :=
  SOpV.of_run fun a ha w hw => by
    obtain ⟨i1, h1, h2, h3, h4⟩ := hi.out
    obtain ⟨i2, q1, q2, q3, q4⟩ := he.out
    have hb : P.built t ([] : List (Nat × Value)) = some zl.toArray := by
      unfold Program.built
      simp only [h1, hu.h, h2, q1]
      rfl
    have := run_build w t #[] zl.toArray hb
    simp [execOp, this]
/-- a row of a grid in memory -/
theorem ov_ldG (g : Grid) {t : TypeId} {b i j : Nat} {td : TypeDesc} {T : TypeId} [hu : SUnd P t td] (hx : sval E x = some (.pointer (some ⟨b, 0 + j * 1, none⟩))) (hr : sisRow td = false) (hL : getL L i = some [(b, srow (gl g) T)]) (hj : j < 16) :
    SOpV P n lo s E L ⟨d, .load t x, ty, pos, after, g0⟩ (.int .i64 (Sx.bits (g j) 16 : Nat)) :=
  ov_load hx hr (getL_flat hL (List.mem_singleton.2 rfl)) (by rw [snth_eq, Nat.zero_add, Nat.mul_one]; exact gl_get g hj)
theorem ov_orG {f h : Nat → Bool} (hx : sval E x = some (.int .i64 (Sx.bits f 16 : Nat))) (hy : sval E y = some (.int .i64 (Sx.bits h 16 : Nat))) :
    SOpV P n lo s E L ⟨d, .binOp .or xt x y yt, ty, pos, after, g0⟩ (.int .i64 (Sx.bits (fun i => f i || h i) 16 : Nat)) := by
  have h1 := bits16 f
  have h2 := bits16 h
  have := ov_or (P := P) (n := n) (lo := lo) (s := s) (L := L) (d := d) (ty := ty) (pos := pos) (after := after) (g := g0) (xt := xt) (yt := yt) hx hy (by omega) (by omega)
  rw [Int.toNat_natCast, Int.toNat_natCast, bits_or] at this
  exact this
/-- one shifted left -/
theorem ov_bit {kj : IntKind} {j : Int} (hx : sval E x = some (.int .i64 1)) (hy : sval E y = some (.int kj j)) (hj : 0 ≤ j ∧ j ≤ 16) :
    SOpV P n lo s E L ⟨d, .binOp .shl xt x y yt, ty, pos, after, g0⟩ (.int .i64 ((2 ^ j.toNat : Nat) : Int)) := by
  have hp : (2 : Nat) ^ j.toNat ≤ 2 ^ 16 := Nat.pow_le_pow_right (by omega) (by omega)
  have e : (1 : Int) * 2 ^ j.toNat = ((2 ^ j.toNat : Nat) : Int) := by push_cast; omega
  have hm : ∀ m : Nat, m ≤ 2 ^ 16 → -9223372036854775808 ≤ (m : Int) ∧ (m : Int) ≤ 9223372036854775807 := fun m h => by omega
  have := ov_shl (P := P) (n := n) (lo := lo) (s := s) (L := L) (d := d) (ty := ty) (pos := pos) (after := after) (g := g0) (xt := xt) (yt := yt) hx hy (by omega) (by rw [e]; exact hm _ hp)
  rw [e] at this
  exact this
/-- is this bit there -/
theorem ov_andBit {f : Nat → Bool} {j : Nat} (hx : sval E x = some (.int .i64 (Sx.bits f 16 : Nat))) (hy : sval E y = some (.int .i64 ((2 ^ j : Nat) : Int))) (hj : j < 16) :
    SOpV P n lo s E L ⟨d, .binOp .and xt x y yt, ty, pos, after, g0⟩ (.int .i64 (if f j = true then ((2 ^ j : Nat) : Int) else 0)) := by
  have h1 := bits16 f
  have hp : (2 : Nat) ^ j ≤ 2 ^ 16 := Nat.pow_le_pow_right (by omega) (by omega)
  have hm : ∀ m : Nat, m ≤ 2 ^ 16 → 0 ≤ (m : Int) ∧ (m : Int) ≤ 9223372036854775807 := fun m h => by omega
  have := ov_and (P := P) (n := n) (lo := lo) (s := s) (L := L) (d := d) (ty := ty) (pos := pos) (after := after) (g := g0) (xt := xt) (yt := yt) hx hy (by omega) (hm _ hp)
  rw [Int.toNat_natCast, Int.toNat_natCast, bits_and_bit f hj] at this
  split at this
  · rename_i h; rw [if_pos h]; exact this
  · rename_i h; rw [if_neg h]; exact this
end
theorem bit_ne {p : Bool} {j : Nat} : (if p = true then ((2 ^ j : Nat) : Int) else 0) ≠ 0 ↔ p = true := by
  have h2 : 0 < 2 ^ j := Nat.pow_pos (by omega)
  cases p
  · simp
  · have hm : ∀ m : Nat, 0 < m → (m : Int) ≠ 0 := fun m h => by omega
    rw [if_pos rfl]
    exact ⟨fun _ => rfl, fun _ => hm _ h2⟩
end Go.Proofs.Ytakijgpoaeggnaa
/-
  Contracts: images that are copied; images that a function gives.
-/
set_option linter.unusedVariables false
namespace Go.Proofs.Ytakijgpoaeggnaa
open Go Sx
attribute [local irreducible] Exit.then Exit.inBlock bodyPost
theorem c_clone (v : Value) (l : List Int) (w : World) (hv : RInts w v l) (hl : l.length ≤ 1000000000) : SYieldsF Try.prog 161 #[v] (fun u H => OInts 3 u l H) w := by
  have hv' := hv.form
  obtain ⟨a, c, rfl⟩ := hv'
  cases a with
  | none =>
    have h0 : l = [] := by
      obtain ⟨a, c', he, hf⟩ := RRow.form hv
      by_cases hn : 0 < l.length
      · obtain ⟨b, o, rfl⟩ := hf hn; cases he
      · exact List.eq_nil_of_length_eq_zero (by omega)
    (first | apply SYields.mk | apply SYieldsF.mk | skip); refine s_enter Try.func161 rfl Try.ntmps161 rfl ?_
    repeat' (first | exact rfl | (apply kO; (first | exact ov_pure rfl | (apply kOBin; (first | exact aBin)) | (apply kOCall; (first | (apply kCallB; (first | exact aBlt | exact aLenR)))) | (apply kOLoad; (first | exact aLdF | exact aLdR)) | exact ov_fieldAddr rfl | (apply kOIdx; (first | exact aIdx)) | exact aRest | exact aNew | exact (ov_field1 (ft := 37) rfl rfl rfl rfl))) | (refine kN ?_; (first | (refine kStore ?_; (first | refine s_store1 _ rfl rfl gpA rfl (by rfl) ?_ | refine s_storeS _ rfl rfl gpA rfl rfl (by rfl) ?_ | refine s_storeS _ rfl rfl gpA rfl (ones_img oiA) (by rfl) ?_)) | refine s_boxS rfl rfl (fun b hb => ?_) | refine s_allocS rfl (fun b hb => ?_) | refine s_box1 rfl rfl rfl (fun b hb => ?_) | refine s_alloc1 rfl rfl (fun b hb => ?_) | refine s_buildSlice0 rfl (fun b hb => ?_) | refine s_buildSlice rfl rfl rfl rfl rfl (fun b hb => ?_) | apply s_step)) | (refine kG ?_; (first | refine s_gyes rfl rfl rfl ?_ | refine s_gno rfl rfl rfl rfl rfl ?_ | ((first | refine s_split_d rfl rfl (fun h => ?_) (fun h => ?_) | refine s_split_n rfl rfl (fun h => ?_) (fun h => ?_)) <;> (try (first | contradiction | (exfalso; omega)))) | refine s_split_nb rfl rfl (fun h => ?_) (fun h => ?_) | refine s_split rfl rfl (fun h => ?_) (fun h => ?_))) | refine l_then ?_ | (refine kC ?_; (first | refine c_seq ?_ | refine c_regionN rfl ?_ | refine c_ret ?_ | (refine kCond ?_; (first | refine c_cond_t rfl ?_ | refine c_cond_f rfl ?_ | ((first | refine c_cond_d rfl (fun h => ?_) (fun h => ?_) | refine c_cond_n rfl (fun h => ?_) (fun h => ?_)) <;> (try (first | contradiction | (exfalso; omega)))) | refine c_cond_nb rfl (fun h => ?_) (fun h => ?_) | refine c_cond rfl (fun h => ?_) (fun h => ?_))) | refine c_block ?_ | refine c_skip ?_ | refine c_exit ?_ | refine c_regionQN rfl rfl (by decide +kernel) ?_)) | apply s_stepQ | (refine kQG ?_; (first | refine s_gyesQ rfl rfl rfl ?_ | refine s_gnoQ rfl rfl rfl rfl rfl ?_ | ((first | refine s_splitQ_d rfl rfl (fun h => ?_) (fun h => ?_) | refine s_splitQ_n rfl rfl (fun h => ?_) (fun h => ?_)) <;> (try (first | contradiction | (exfalso; omega)))) | refine s_splitQ_nb rfl rfl (fun h => ?_) (fun h => ?_) | refine s_splitQ rfl rfl (fun h => ?_) (fun h => ?_))) | refine lQ_then ?_ | refine lQ_ends ?_ | (refine kE ?_; (first | refine e_then_r ?_ | refine e_block_r ?_ | refine e_then_n ?_ | refine e_then_x ?_ | refine e_block_n ?_ | refine e_block_x ?_ | refine e_block_y rfl ?_)) | refine l_ends ?_)
    all_goals refine s_leave1 rfl rfl (fun w hw => ⟨_, [], rfl, ?_, hw.toFresh0⟩)
    all_goals (rw [h0]; exact OInts.nil _)
  | some A =>
    (first | apply SYields.mk | apply SYieldsF.mk | skip); refine s_enter Try.func161 rfl Try.ntmps161 rfl ?_
    repeat' (first | exact rfl | (apply kO; (first | exact ov_pure rfl | (apply kOBin; (first | exact aBin)) | (apply kOCall; (first | (apply kCallB; (first | exact aBlt | exact aLenR)))) | (apply kOLoad; (first | exact aLdF | exact aLdR)) | exact ov_fieldAddr rfl | (apply kOIdx; (first | exact aIdx)) | exact aRest | exact aNew | exact (ov_field1 (ft := 37) rfl rfl rfl rfl))) | (refine kN ?_; (first | (refine kCall ?_; (first | (refine kWApp ?_; (refine s_append 0 (ys := ivals l) (m := l.length) rfl rfl (OVec.empty 1 3 _) rfl rfl (by decide) (by simp [ivals]) (oneCells_ivals l) (fun w hw => ⟨_, _, rfl, RInts.src (hv.keep (hw.cells rfl))⟩) (by omega) (by omega) rfl (fun v' H' hv' => ?_))) | apply s_step)) | (refine kStore ?_; (first | refine s_store1 _ rfl rfl gpA rfl (by rfl) ?_ | refine s_storeS _ rfl rfl gpA rfl rfl (by rfl) ?_ | refine s_storeS _ rfl rfl gpA rfl (ones_img oiA) (by rfl) ?_)) | refine s_boxS rfl rfl (fun b hb => ?_) | refine s_allocS rfl (fun b hb => ?_) | refine s_box1 rfl rfl rfl (fun b hb => ?_) | refine s_alloc1 rfl rfl (fun b hb => ?_) | refine s_buildSlice0 rfl (fun b hb => ?_) | refine s_buildSlice rfl rfl rfl rfl rfl (fun b hb => ?_) | apply s_step)) | (refine kG ?_; (first | refine s_gyes rfl rfl rfl ?_ | refine s_gno rfl rfl rfl rfl rfl ?_ | ((first | refine s_split_d rfl rfl (fun h => ?_) (fun h => ?_) | refine s_split_n rfl rfl (fun h => ?_) (fun h => ?_)) <;> (try (first | contradiction | (exfalso; omega)))) | refine s_split_nb rfl rfl (fun h => ?_) (fun h => ?_) | refine s_split rfl rfl (fun h => ?_) (fun h => ?_))) | refine l_then ?_ | (refine kC ?_; (first | refine c_seq ?_ | refine c_regionN rfl ?_ | refine c_ret ?_ | (refine kCond ?_; (first | refine c_cond_t rfl ?_ | refine c_cond_f rfl ?_ | ((first | refine c_cond_d rfl (fun h => ?_) (fun h => ?_) | refine c_cond_n rfl (fun h => ?_) (fun h => ?_)) <;> (try (first | contradiction | (exfalso; omega)))) | refine c_cond_nb rfl (fun h => ?_) (fun h => ?_) | refine c_cond rfl (fun h => ?_) (fun h => ?_))) | refine c_block ?_ | refine c_skip ?_ | refine c_exit ?_ | refine c_regionQN rfl rfl (by decide +kernel) ?_)) | apply s_stepQ | (refine kQG ?_; (first | refine s_gyesQ rfl rfl rfl ?_ | refine s_gnoQ rfl rfl rfl rfl rfl ?_ | ((first | refine s_splitQ_d rfl rfl (fun h => ?_) (fun h => ?_) | refine s_splitQ_n rfl rfl (fun h => ?_) (fun h => ?_)) <;> (try (first | contradiction | (exfalso; omega)))) | refine s_splitQ_nb rfl rfl (fun h => ?_) (fun h => ?_) | refine s_splitQ rfl rfl (fun h => ?_) (fun h => ?_))) | refine lQ_then ?_ | refine lQ_ends ?_ | (refine kE ?_; (first | refine e_then_r ?_ | refine e_block_r ?_ | refine e_then_n ?_ | refine e_then_x ?_ | refine e_block_n ?_ | refine e_block_x ?_ | refine e_block_y rfl ?_)) | refine l_ends ?_)
    all_goals refine s_leave1 rfl rfl (fun w hw => ⟨_, _, rfl, ?_, hw.toFresh (i := 0) rfl⟩)
    all_goals simpa [OInts] using hv'
theorem c_copyImage (i : DImg) (e : Value) (w : World) (hv : RInts w e i.data) (hl : i.data.length ≤ 1000000000) : SYieldsF Try.prog 96 #[vImg i e] (fun u H => OImg u i H) w := by
  (first | apply SYields.mk | apply SYieldsF.mk | skip); refine s_enter Try.func96 rfl Try.ntmps96 rfl ?_
  repeat' (first | exact rfl | (apply kO; (first | exact ov_pure rfl | (apply kOBin; (first | exact aBin)) | (apply kOCall; (first | (apply kCallB; (first | exact aBlt | exact aLenR)))) | (apply kOLoad; (first | exact aLdF | exact aLdR)) | exact ov_fieldAddr rfl | (apply kOIdx; (first | exact aIdx)) | exact aRest | exact aNew | exact (ov_field1 (ft := 37) rfl rfl rfl rfl))) | (refine kN ?_; (first | (refine kCall ?_; (first | (refine kWFunc ?_; (refine s_callF (fun u H => OInts 3 u i.data H) rfl (fun w hw => c_clone _ _ w (riA hw) hl) rfl (fun u H hu => ?_); have f1 := hu.form; obtain ⟨_, _, rfl⟩ := f1)) | apply s_step)) | (refine kStore ?_; (first | refine s_store1 _ rfl rfl gpA rfl (by rfl) ?_ | refine s_storeS _ rfl rfl gpA rfl rfl (by rfl) ?_ | refine s_storeS _ rfl rfl gpA rfl (ones_img oiA) (by rfl) ?_)) | refine s_boxS rfl rfl (fun b hb => ?_) | refine s_allocS rfl (fun b hb => ?_) | refine s_box1 rfl rfl rfl (fun b hb => ?_) | refine s_alloc1 rfl rfl (fun b hb => ?_) | refine s_buildSlice0 rfl (fun b hb => ?_) | refine s_buildSlice rfl rfl rfl rfl rfl (fun b hb => ?_) | apply s_step)) | (refine kG ?_; (first | refine s_gyes rfl rfl rfl ?_ | refine s_gno rfl rfl rfl rfl rfl ?_ | ((first | refine s_split_d rfl rfl (fun h => ?_) (fun h => ?_) | refine s_split_n rfl rfl (fun h => ?_) (fun h => ?_)) <;> (try (first | contradiction | (exfalso; omega)))) | refine s_split_nb rfl rfl (fun h => ?_) (fun h => ?_) | refine s_split rfl rfl (fun h => ?_) (fun h => ?_))) | (refine kS ?_; (first | refine h_exec rfl ?_ | refine h_take_nil rfl rfl rfl ?_ | refine h_take_pick rfl rfl rfl ?_ | refine h_nil ?_ | refine h_alt ?_ ?_ | apply h_take)) | (refine kBack ?_; (first | refine h_back_last rfl ?_ | refine h_backN rfl subA ?_)) | refine l_then ?_ | (refine kC ?_; (first | (refine kReg 1 ?_; refine c_regionSN (SPlan.take 0 (SPlan.take 1 (SPlan.take 2 (SPlan.take 3 (SPlan.take 4 (SPlan.take 5 (SPlan.run 6 (SPlan.take 7 (SPlan.run 8 SPlan.done))))))))) (some 8) rfl rfl (by decide +kernel) ?_) | (refine kReg 1 ?_; refine c_regionSN (SPlan.take 0 (SPlan.take 1 (SPlan.take 2 (SPlan.take 3 (SPlan.take 4 (SPlan.take 5 (SPlan.run 6 (SPlan.take 7 (SPlan.run 8 SPlan.done))))))))) none rfl rfl (by decide +kernel) ?_) | refine c_seq ?_ | refine c_regionN rfl ?_ | refine c_ret ?_ | (refine kCond ?_; (first | refine c_cond_t rfl ?_ | refine c_cond_f rfl ?_ | ((first | refine c_cond_d rfl (fun h => ?_) (fun h => ?_) | refine c_cond_n rfl (fun h => ?_) (fun h => ?_)) <;> (try (first | contradiction | (exfalso; omega)))) | refine c_cond_nb rfl (fun h => ?_) (fun h => ?_) | refine c_cond rfl (fun h => ?_) (fun h => ?_))) | refine c_block ?_ | refine c_skip ?_ | refine c_exit ?_ | refine c_regionQN rfl rfl (by decide +kernel) ?_)) | apply s_stepQ | (refine kQG ?_; (first | refine s_gyesQ rfl rfl rfl ?_ | refine s_gnoQ rfl rfl rfl rfl rfl ?_ | ((first | refine s_splitQ_d rfl rfl (fun h => ?_) (fun h => ?_) | refine s_splitQ_n rfl rfl (fun h => ?_) (fun h => ?_)) <;> (try (first | contradiction | (exfalso; omega)))) | refine s_splitQ_nb rfl rfl (fun h => ?_) (fun h => ?_) | refine s_splitQ rfl rfl (fun h => ?_) (fun h => ?_))) | refine lQ_then ?_ | refine lQ_ends ?_ | (refine kE ?_; (first | refine e_then_r ?_ | refine e_block_r ?_ | refine e_then_n ?_ | refine e_then_x ?_ | refine e_block_n ?_ | refine e_block_x ?_ | refine e_block_y rfl ?_)) | refine l_ends ?_)
  all_goals (refine kE ?_; refine s_leaveSF rfl rfl rfl fwA (fun w hw => ?_))
  exact ⟨_, _, rfl, ⟨_, rfl, by assumption⟩, hw.toFresh (i := 0) rfl⟩
theorem c_l05Copy (i : DImg) (e : Value) (w : World) (hv : RInts w e i.data) (hl : i.data.length ≤ 1000000000) : SYieldsF Try.prog 153 #[vImg i e] (fun u H => OImg u i H) w := by
  have hv' := hv.form
  obtain ⟨a, c, rfl⟩ := hv'
  cases a with
  | none =>
    have h0 : i.data = [] := by
      obtain ⟨a, c', he, hf⟩ := RRow.form hv
      by_cases hn : 0 < i.data.length
      · obtain ⟨b, o, rfl⟩ := hf hn; cases he
      · exact List.eq_nil_of_length_eq_zero (by omega)
    have hc0 : i.data.length = 0 := by rw [h0]; rfl
    rw [show Value.slice none i.data.length c = .slice none 0 c by rw [hc0]]
    (first | apply SYields.mk | apply SYieldsF.mk | skip); refine s_enter Try.func153 rfl Try.ntmps153 rfl ?_
    repeat' (first | exact rfl | (apply kO; (first | exact ov_pure rfl | (apply kOBin; (first | exact aBin)) | (apply kOCall; (first | (apply kCallB; (first | exact aBlt | exact (ov_appendNil rfl rfl (by omega)) | exact aLenR)))) | (apply kOLoad; (first | exact aLdF | exact aLdR)) | exact ov_fieldAddr rfl | (apply kOIdx; (first | exact aIdx)) | exact aRest | exact aNew | exact (ov_field1 (ft := 37) rfl rfl rfl rfl))) | (refine kN ?_; (first | (refine kStore ?_; (first | refine s_store1 _ rfl rfl gpA rfl (by rfl) ?_ | refine s_storeS _ rfl rfl gpA rfl rfl (by rfl) ?_ | refine s_storeS _ rfl rfl gpA rfl (ones_img oiA) (by rfl) ?_)) | refine s_boxS rfl rfl (fun b hb => ?_) | refine s_allocS rfl (fun b hb => ?_) | refine s_box1 rfl rfl rfl (fun b hb => ?_) | refine s_alloc1 rfl rfl (fun b hb => ?_) | refine s_buildSlice0 rfl (fun b hb => ?_) | refine s_buildSlice rfl rfl rfl rfl rfl (fun b hb => ?_) | apply s_step)) | (refine kG ?_; (first | refine s_gyes rfl rfl rfl ?_ | refine s_gno rfl rfl rfl rfl rfl ?_ | ((first | refine s_split_d rfl rfl (fun h => ?_) (fun h => ?_) | refine s_split_n rfl rfl (fun h => ?_) (fun h => ?_)) <;> (try (first | contradiction | (exfalso; omega)))) | refine s_split_nb rfl rfl (fun h => ?_) (fun h => ?_) | refine s_split rfl rfl (fun h => ?_) (fun h => ?_))) | (refine kS ?_; (first | refine h_exec rfl ?_ | refine h_take_nil rfl rfl rfl ?_ | refine h_take_pick rfl rfl rfl ?_ | refine h_nil ?_ | refine h_alt ?_ ?_ | apply h_take)) | (refine kBack ?_; (first | refine h_back_last rfl ?_ | refine h_backN rfl subA ?_)) | refine l_then ?_ | (refine kC ?_; (first | (refine kReg 1 ?_; refine c_regionSN (SPlan.take 0 (SPlan.take 1 (SPlan.take 2 (SPlan.take 3 (SPlan.take 5 (SPlan.take 6 (SPlan.run 4 (SPlan.run 7 (SPlan.take 8 (SPlan.run 9 SPlan.done)))))))))) (some 9) rfl rfl (by decide +kernel) ?_) | (refine kReg 1 ?_; refine c_regionSN (SPlan.take 0 (SPlan.take 1 (SPlan.take 2 (SPlan.take 3 (SPlan.take 5 (SPlan.take 6 (SPlan.run 4 (SPlan.run 7 (SPlan.take 8 (SPlan.run 9 SPlan.done)))))))))) none rfl rfl (by decide +kernel) ?_) | refine c_seq ?_ | refine c_regionN rfl ?_ | refine c_ret ?_ | (refine kCond ?_; (first | refine c_cond_t rfl ?_ | refine c_cond_f rfl ?_ | ((first | refine c_cond_d rfl (fun h => ?_) (fun h => ?_) | refine c_cond_n rfl (fun h => ?_) (fun h => ?_)) <;> (try (first | contradiction | (exfalso; omega)))) | refine c_cond_nb rfl (fun h => ?_) (fun h => ?_) | refine c_cond rfl (fun h => ?_) (fun h => ?_))) | refine c_block ?_ | refine c_skip ?_ | refine c_exit ?_ | refine c_regionQN rfl rfl (by decide +kernel) ?_)) | apply s_stepQ | (refine kQG ?_; (first | refine s_gyesQ rfl rfl rfl ?_ | refine s_gnoQ rfl rfl rfl rfl rfl ?_ | ((first | refine s_splitQ_d rfl rfl (fun h => ?_) (fun h => ?_) | refine s_splitQ_n rfl rfl (fun h => ?_) (fun h => ?_)) <;> (try (first | contradiction | (exfalso; omega)))) | refine s_splitQ_nb rfl rfl (fun h => ?_) (fun h => ?_) | refine s_splitQ rfl rfl (fun h => ?_) (fun h => ?_))) | refine lQ_then ?_ | refine lQ_ends ?_ | (refine kE ?_; (first | refine e_then_r ?_ | refine e_block_r ?_ | refine e_then_n ?_ | refine e_then_x ?_ | refine e_block_n ?_ | refine e_block_x ?_ | refine e_block_y rfl ?_)) | refine l_ends ?_)
    all_goals (refine kE ?_; refine s_leaveSF rfl rfl rfl fwA (fun w hw => ?_))
    all_goals exact ⟨_, _, rfl, ⟨_, rfl, by rw [h0]; exact OVec.empty 1 3 _⟩, hw.toFresh (i := 0) rfl⟩
  | some A =>
    (first | apply SYields.mk | apply SYieldsF.mk | skip); refine s_enter Try.func153 rfl Try.ntmps153 rfl ?_
    repeat' (first | exact rfl | (apply kO; (first | exact ov_pure rfl | (apply kOBin; (first | exact aBin)) | (apply kOCall; (first | (apply kCallB; (first | exact aBlt | exact aLenR)))) | (apply kOLoad; (first | exact aLdF | exact aLdR)) | exact ov_fieldAddr rfl | (apply kOIdx; (first | exact aIdx)) | exact aRest | exact aNew | exact (ov_field1 (ft := 37) rfl rfl rfl rfl))) | (refine kN ?_; (first | (refine kCall ?_; (first | (refine kWApp ?_; (refine s_append 0 (ys := ivals i.data) (m := i.data.length) rfl rfl (OVec.empty 1 3 _) rfl rfl (by decide) (by simp [ivals]) (oneCells_ivals i.data) (fun w hw => ⟨_, _, rfl, RInts.src (hv.keep (hw.cells rfl))⟩) (by omega) (by omega) rfl (fun v' H' hv' => ?_); have f1 := hv'.form; obtain ⟨_, _, rfl⟩ := f1)) | apply s_step)) | (refine kStore ?_; (first | refine s_store1 _ rfl rfl gpA rfl (by rfl) ?_ | refine s_storeS _ rfl rfl gpA rfl rfl (by rfl) ?_ | refine s_storeS _ rfl rfl gpA rfl (ones_img oiA) (by rfl) ?_)) | refine s_boxS rfl rfl (fun b hb => ?_) | refine s_allocS rfl (fun b hb => ?_) | refine s_box1 rfl rfl rfl (fun b hb => ?_) | refine s_alloc1 rfl rfl (fun b hb => ?_) | refine s_buildSlice0 rfl (fun b hb => ?_) | refine s_buildSlice rfl rfl rfl rfl rfl (fun b hb => ?_) | apply s_step)) | (refine kG ?_; (first | refine s_gyes rfl rfl rfl ?_ | refine s_gno rfl rfl rfl rfl rfl ?_ | ((first | refine s_split_d rfl rfl (fun h => ?_) (fun h => ?_) | refine s_split_n rfl rfl (fun h => ?_) (fun h => ?_)) <;> (try (first | contradiction | (exfalso; omega)))) | refine s_split_nb rfl rfl (fun h => ?_) (fun h => ?_) | refine s_split rfl rfl (fun h => ?_) (fun h => ?_))) | (refine kS ?_; (first | refine h_exec rfl ?_ | refine h_take_nil rfl rfl rfl ?_ | refine h_take_pick rfl rfl rfl ?_ | refine h_nil ?_ | refine h_alt ?_ ?_ | apply h_take)) | (refine kBack ?_; (first | refine h_back_last rfl ?_ | refine h_backN rfl subA ?_)) | refine l_then ?_ | (refine kC ?_; (first | (refine kReg 1 ?_; refine c_regionSN (SPlan.take 0 (SPlan.take 1 (SPlan.take 2 (SPlan.take 3 (SPlan.take 5 (SPlan.take 6 (SPlan.run 4 (SPlan.run 7 (SPlan.take 8 (SPlan.run 9 SPlan.done)))))))))) (some 9) rfl rfl (by decide +kernel) ?_) | (refine kReg 1 ?_; refine c_regionSN (SPlan.take 0 (SPlan.take 1 (SPlan.take 2 (SPlan.take 3 (SPlan.take 5 (SPlan.take 6 (SPlan.run 4 (SPlan.run 7 (SPlan.take 8 (SPlan.run 9 SPlan.done)))))))))) none rfl rfl (by decide +kernel) ?_) | refine c_seq ?_ | refine c_regionN rfl ?_ | refine c_ret ?_ | (refine kCond ?_; (first | refine c_cond_t rfl ?_ | refine c_cond_f rfl ?_ | ((first | refine c_cond_d rfl (fun h => ?_) (fun h => ?_) | refine c_cond_n rfl (fun h => ?_) (fun h => ?_)) <;> (try (first | contradiction | (exfalso; omega)))) | refine c_cond_nb rfl (fun h => ?_) (fun h => ?_) | refine c_cond rfl (fun h => ?_) (fun h => ?_))) | refine c_block ?_ | refine c_skip ?_ | refine c_exit ?_ | refine c_regionQN rfl rfl (by decide +kernel) ?_)) | apply s_stepQ | (refine kQG ?_; (first | refine s_gyesQ rfl rfl rfl ?_ | refine s_gnoQ rfl rfl rfl rfl rfl ?_ | ((first | refine s_splitQ_d rfl rfl (fun h => ?_) (fun h => ?_) | refine s_splitQ_n rfl rfl (fun h => ?_) (fun h => ?_)) <;> (try (first | contradiction | (exfalso; omega)))) | refine s_splitQ_nb rfl rfl (fun h => ?_) (fun h => ?_) | refine s_splitQ rfl rfl (fun h => ?_) (fun h => ?_))) | refine lQ_then ?_ | refine lQ_ends ?_ | (refine kE ?_; (first | refine e_then_r ?_ | refine e_block_r ?_ | refine e_then_n ?_ | refine e_then_x ?_ | refine e_block_n ?_ | refine e_block_x ?_ | refine e_block_y rfl ?_)) | refine l_ends ?_)
    all_goals (refine kE ?_; refine s_leaveSF rfl rfl rfl fwA (fun w hw => ?_))
    all_goals exact ⟨_, _, rfl, ⟨_, rfl, by simpa [OInts] using hv'⟩, hw.toFresh (i := 0) rfl⟩
/-- a function value that answers so, in every later world -/
def Gives (P : Program) (g : FuncId) (cap : List Value) (φ : Int → Int → Int) (w h : Int) (w0 : World) : Prop :=
  ∀ x y : Int, (0 ≤ x ∧ x < w) → (0 ≤ y ∧ y < h) → ∀ w', RowKit.Below w0.heap.size w0 w' → SYields P g (([Value.int .i64 x, Value.int .i64 y] : List Value) ++ cap).toArray (.int .i64 (φ x y)) w'
end Go.Proofs.Ytakijgpoaeggnaa
/-
  The plain functions, continued: places in pictures that are turned and scaled; fading in place; colors in place. No program in sight.
-/
set_option linter.unusedVariables false
namespace Sx
/-! ### chapter 7 -/
/-! ### fading in place -/
def mapFirst (f : Int → Int) (l : List Int) (j : Nat) : List Int := (l.take j).map f ++ l.drop j
end Sx
/-
  Contracts: images that are turned, scaled, faded.
-/
set_option linter.unusedVariables false
namespace Go.Proofs.Ytakijgpoaeggnaa
open Go Sx
attribute [local irreducible] Exit.then Exit.inBlock bodyPost
end Go.Proofs.Ytakijgpoaeggnaa
/-
  Contracts: the picture of a surface; is it opaque.
-/
set_option linter.unusedVariables false
namespace Go.Proofs.Ytakijgpoaeggnaa
open Go Sx
attribute [local irreducible] Exit.then Exit.inBlock bodyPost oriented scaled pictureOf rawPicture
section
variable {n : Nat} {lo : SMut} {s : World} {ops : Array Oper} {Q : Exit → Act → World → Prop} {E : SEnv} {L : SHeap} {dd : Nat} {ty : TypeId} {pos : String} {after : Array Edge} {rest : List Oper}
end
end Go.Proofs.Ytakijgpoaeggnaa
