/-
  Rules for scenes that the laws mark.
-/
import Derived.Test.YtfmjeakcfmmkfaaGreatK16
import Derived.Test.YtfmjeakcfmmkfaaGreatKS
set_option linter.unusedVariables false
namespace Go.Proofs.YtfmjeakcfmmkfaaGreat
open Go Sx
attribute [local irreducible] Exit.then Exit.inBlock bodyPost
theorem OVec.inv {k : Nat} {T : TypeId} {v : Value} {n : Nat} {xs : List Value} {H : SPiece} (h : OVec k T v n xs H) : (v = .slice none 0 0 ∧ n = 0 ∧ H = []) ∨ ∃ b cap r, v = .slice (some ⟨b, 0, none⟩) n cap ∧ H = [(b, srow (xs ++ r) T)] ∧ (xs ++ r).length = cap * k ∧ n ≤ cap ∧ cap ≤ maxLen := by
  cases h with
  | nil => exact .inl ⟨rfl, rfl, rfl⟩
  | blk b n cap xs r h1 h2 h3 h4 => exact .inr ⟨b, cap, r, rfl, rfl, h2, h3, h4⟩
theorem erows_get {α : Type} {e : SElem α} {l : List α} {ds : Nat → Value} : ∀ {n i j : Nat}, i < n → j < e.k → (erows e l ds n)[i * e.k + j]? = (e.cells (l.getD i e.dflt) (ds i))[j]?
  | 0, i, j, hi, _ => by omega
  | n + 1, i, j, hi, hj => by
    have hl := erows_length e l ds n
    rw [erows_succ]
    by_cases h : i < n
    · have : i * e.k + j < n * e.k := by
        have := Nat.mul_le_mul_right e.k (show i + 1 ≤ n by omega)
        rw [Nat.succ_mul] at this; omega
      rw [List.getElem?_append_left (by omega)]
      exact erows_get h hj
    · obtain rfl : i = n := by omega
      rw [List.getElem?_append_right (by omega), hl, Nat.add_sub_cancel_left]
/-- the inner slices stay where they are -/
def keepsDs (ds : Nat → Value) (n : Nat) (cells : List Value) : Prop := ∀ i, i < n → cells[i * 11 + 10]? = some (ds i)
theorem keepsDs_set {ds : Nat → Value} {n o : Nat} {v : Value} {cells : List Value} (h : keepsDs ds n cells) (ho : o % 11 ≠ 10) : keepsDs ds n (cells.set o v) := fun i hi => by
  rw [List.getElem?_set_ne (by omega)]; exact h i hi
theorem keepsDs_get {ds : Nat → Value} {n i o : Nat} {cells : List Value} (h : keepsDs ds n cells) (hi : i < n) (ho : o = i * 11 + 10) : snth cells o = some (ds i) := by rw [snth_eq, ho]; exact h i hi
def ecatF (Hs : Nat → SPiece) (i m : Nat) : SPiece := (List.range m).flatMap (fun t => Hs (i + t))
theorem ecatF_all (Hs : Nat → SPiece) (n : Nat) : ecatF Hs 0 n = ecat Hs n := by unfold ecatF ecat; simp
theorem ecatF_cut (Hs : Nat → SPiece) {i n : Nat} (h : i < n) : ecatF Hs i (n - i) = Hs i ++ ecatF Hs (i + 1) (n - (i + 1)) := by
  unfold ecatF
  rw [show n - i = (n - (i + 1)) + 1 by omega, List.range_succ_eq_map, List.flatMap_cons, List.flatMap_map, Nat.add_zero]
  exact congrArg (fun f => Hs i ++ (List.range (n - (i + 1))).flatMap f) (funext fun t => by show Hs (i + (t + 1)) = _; rw [show i + (t + 1) = i + 1 + t by omega])
section
variable {P : Program} {n : Nat} {lo : SMut} {s : World} {ops : Array Oper} {Q : Exit → Act → World → Prop} {E : SEnv} {L : SHeap} {l : List Oper}
theorem w_cut {X A B C : SPiece} {R : SHeap} (e : C = A ++ B) (k : WPL P n lo s ops Q l E (X :: A :: B :: R)) : WPL P n lo s ops Q l E (X :: C :: R) := by
  subst e
  unfold WPL at *
  exact fun a w ha hw => k a w ha (hw.perm (by simp))
theorem c_regroup {c : Code} {L' : SHeap} (h : ∀ w, SSt lo s L w → SSt lo s L' w) (k : WPC P n lo s c Q E L') : WPC P n lo s c Q E L := by
  unfold WPC at *
  exact fun a w ha hw => k a w ha (h w hw)
end
theorem _root_.Sx.SSt.gone {lo : SMut} {s w : World} {L : SHeap} (h : SSt lo s L w) : SSt lo s [[], []] w := (h.sub (L' := []) (List.nil_sublist _)).nil0.nil0
set_option maxHeartbeats 4000000 in
theorem c_markSurfaceS (v : Value) (l : List DSurf) (H : SPiece) (k : Int) (W : World) (hv : OElems eSurf 139 v l H) (hH : Holds W H) (hn : H.keys.Nodup) (hk : 0 ≤ k ∧ k ≤ 1000000000) (hl : l.length ≤ 1048576 ∧ surfsLen l ≤ 1048576) :
    SYieldsG Tryz.prog 91 #[v, .int .i64 k] H (fun u H' F => u = .int .i64 (k + 9 * l.length + surfsLen l)) W := by
  obtain ⟨ds, H0, Hs, G, h1, h2, rfl⟩ := hv
  have hm := fun j => sumTo_mono (fun i => (l.getD i default).buf.data.length) (i := j) (n := l.length)
  have hs := fun j => (show sumTo (fun i => (l.getD i default).buf.data.length) (j + 1) = sumTo (fun i => (l.getD i default).buf.data.length) j + (l.getD j default).buf.data.length from rfl)
  have hsl : surfsLen l = l.length + sumTo (fun i => (l.getD i default).buf.data.length) l.length := rfl
  rcases OVec.inv h1 with ⟨rfl, hn0, rfl⟩ | ⟨b0, cap, r, rfl, rfl, hcap, hnc, hcm⟩
  · refine SYieldsG.mk (s_enterM Tryz.func91 rfl Tryz.ntmps91 rfl hH hn ?_)
    repeat' (first | exact rfl | (apply kO; (first | exact ov_pure rfl | (apply kOBin; (first | exact aBin)) | (apply kOCall; (first | (apply kCallB; (first | exact aBlt | exact aLenR)))) | (apply kOLoad; (first | exact aLdF | exact aLdR)) | exact ov_fieldAddr rfl | (apply kOIdx; (first | exact aIdx)) | exact aRest | exact aNew | exact (ov_field1 (ft := 31) rfl rfl rfl rfl))) | (refine kN ?_; (first | (refine kStore ?_; (first | refine s_store1 _ rfl rfl gpA rfl (by rfl) ?_ | refine s_storeS _ rfl rfl gpA rfl rfl (by rfl) ?_ | refine s_storeS _ rfl rfl gpA rfl (ones_img oiA) (by rfl) ?_)) | refine s_boxS rfl rfl (fun b hb => ?_) | refine s_allocS rfl (fun b hb => ?_) | refine s_box1 rfl rfl rfl (fun b hb => ?_) | refine s_alloc1 rfl rfl (fun b hb => ?_) | refine s_buildSlice0 rfl (fun b hb => ?_) | refine s_buildSlice rfl rfl rfl rfl rfl (fun b hb => ?_) | apply s_step)) | (refine kG ?_; (first | refine s_gyes rfl rfl rfl ?_ | refine s_gno rfl rfl rfl rfl rfl ?_ | ((first | refine s_split_d rfl rfl (fun h => ?_) (fun h => ?_) | refine s_split_n rfl rfl (fun h => ?_) (fun h => ?_)) <;> (try (first | contradiction | (exfalso; omega)))) | refine s_split_nb rfl rfl (fun h => ?_) (fun h => ?_) | refine s_split rfl rfl (fun h => ?_) (fun h => ?_))) | refine l_then ?_ | (refine kC ?_; (first | (refine c_loopV (ι := Nat) (fun j => j = 0) (fun j => [(5, .int .i64 (j : Int)), (1, .int .i64 k)]) (fun j => [_]) (fun j => 0) 0 rfl rfl (fun _ => rfl) ⟨rfl, rfl, trivial⟩ (fun w hw => hw) (fun j hj => ?_)) | refine c_seq ?_ | refine c_region ?_ | refine c_ret ?_ | (refine kCond ?_; (first | refine c_cond_t rfl ?_ | refine c_cond_f rfl ?_ | ((first | refine c_cond_d rfl (fun h => ?_) (fun h => ?_) | refine c_cond_n rfl (fun h => ?_) (fun h => ?_)) <;> (try (first | contradiction | (exfalso; omega)))) | refine c_cond_nb rfl (fun h => ?_) (fun h => ?_) | refine c_cond rfl (fun h => ?_) (fun h => ?_))) | refine c_block ?_ | refine c_skip ?_ | refine c_exit ?_ | refine c_regionQ rfl (by decide +kernel) ?_)) | apply s_stepQ | (refine kQG ?_; (first | refine s_gyesQ rfl rfl rfl ?_ | refine s_gnoQ rfl rfl rfl rfl rfl ?_ | ((first | refine s_splitQ_d rfl rfl (fun h => ?_) (fun h => ?_) | refine s_splitQ_n rfl rfl (fun h => ?_) (fun h => ?_)) <;> (try (first | contradiction | (exfalso; omega)))) | refine s_splitQ_nb rfl rfl (fun h => ?_) (fun h => ?_) | refine s_splitQ rfl rfl (fun h => ?_) (fun h => ?_))) | refine lQ_then ?_ | refine lQ_ends ?_ | (refine kE ?_; (first | refine e_then_r ?_ | refine e_block_r ?_ | refine e_then_n ?_ | refine e_then_x ?_ | refine e_block_n ?_ | refine e_block_x ?_ | refine e_block_y rfl ?_)) | refine l_ends ?_)
    all_goals
      exact s_leave1 rfl rfl (fun w hw => ⟨_, [], [], rfl, by rw [hsl, show l.length = 0 from by assumption]; simp [sumTo], hw.gone⟩)
  · have hkeep : keepsDs ds l.length (erows eSurf l ds l.length ++ r) := fun i hi => by
      have hlen := erows_length eSurf l ds l.length
      rw [List.getElem?_append_left (by rw [hlen]; show i * 11 + 10 < l.length * 11; omega)]
      exact erows_get (e := eSurf) (j := 10) hi (by decide)
    refine SYieldsG.mk (s_enterM Tryz.func91 rfl Tryz.ntmps91 rfl hH hn ?_)
    refine c_regroup (L' := [[(b0, srow (erows eSurf l ds l.length ++ r) 139)], ecatF Hs 0 (l.length - 0), G]) (fun w hw => hw.perm (by rw [Nat.sub_zero, ecatF_all]; simp)) ?_
    repeat' (first | exact rfl | (apply kO; (first | exact ov_pure rfl | (apply kOBin; (first | exact aBin | exact (ov_add rfl rfl (by have := hm j.1; omega)))) | (apply kOCall; (first | (apply kCallB; (first | exact aBlt | exact aLenR)))) | (apply kOLoad; (first | exact (ov_load rfl rfl (getL_flat (i := 0) rfl (List.mem_singleton.2 rfl)) (keepsDs_get (i := j.1) (by repeat' first | exact hj2 | apply keepsDs_set | omega) (by omega) (by omega))) | exact aLdF | exact aLdR)) | exact ov_fieldAddr rfl | (apply kOIdx; (first | exact (ov_indexAddr rfl rfl (by omega)) | exact aIdx)) | exact aRest | exact aNew | exact (ov_field1 (ft := 31) rfl rfl rfl rfl))) | (refine kN ?_; (first | (refine kCall ?_; (first | (refine kWFn 32 ?_; (refine w_cut (ecatF_cut Hs (i := j.1) (n := l.length) (by omega)) ?_; refine s_markI _ (l := (l.getD j.1 default).buf.data) rfl (show OInts 3 (ds j.1) (l.getD j.1 default).buf.data (Hs j.1) from h2 j.1 (by omega)) gpA (by have q1 := hm j.1 (by omega); have q2 := hm (j.1 + 1) (by omega); have q3 := hs j.1; omega) rfl (fun H' hu => ?_))) | apply s_step)) | (refine kStore ?_; (first | (refine s_setR 0 rfl rfl rfl rfl (by (try simp only [List.length_set]); omega) ?_) | refine s_store1 _ rfl rfl gpA rfl (by rfl) ?_ | refine s_storeS _ rfl rfl gpA rfl rfl (by rfl) ?_ | refine s_storeS _ rfl rfl gpA rfl (ones_img oiA) (by rfl) ?_)) | refine s_boxS rfl rfl (fun b hb => ?_) | refine s_allocS rfl (fun b hb => ?_) | refine s_box1 rfl rfl rfl (fun b hb => ?_) | refine s_alloc1 rfl rfl (fun b hb => ?_) | refine s_buildSlice0 rfl (fun b hb => ?_) | refine s_buildSlice rfl rfl rfl rfl rfl (fun b hb => ?_) | apply s_step)) | (refine kG ?_; (first | refine s_gyes rfl rfl rfl ?_ | refine s_gno rfl rfl rfl rfl rfl ?_ | ((first | refine s_split_d rfl rfl (fun h => ?_) (fun h => ?_) | refine s_split_n rfl rfl (fun h => ?_) (fun h => ?_)) <;> (try (first | contradiction | (exfalso; omega)))) | refine s_split_nb rfl rfl (fun h => ?_) (fun h => ?_) | refine s_split rfl rfl (fun h => ?_) (fun h => ?_))) | refine l_then ?_ | (refine kC ?_; (first | (refine c_loopV (ι := Nat × List Value) (fun j => j.1 ≤ l.length ∧ keepsDs ds l.length j.2 ∧ j.2.length = cap * 11) (fun j => [(5, .int .i64 (j.1 : Int)), (1, .int .i64 (k + 10 * (j.1 : Int) + (sumTo (fun i => (l.getD i default).buf.data.length) j.1 : Nat)))]) (fun j => [[(b0, srow j.2 139)], ecatF Hs j.1 (l.length - j.1), G]) (fun j => l.length - j.1) (0, _) ⟨by dsimp only; omega, hkeep, hcap⟩ rfl (fun _ => rfl) ⟨rfl, slook_to rfl (vint_to (by simp [sumTo])), trivial⟩ (fun w hw => hw) (fun j hj => ?_); obtain ⟨hj1, hj2, hj3⟩ := hj) | refine c_seq ?_ | refine c_region ?_ | refine c_ret ?_ | (refine kCond ?_; (first | refine c_cond_t rfl ?_ | refine c_cond_f rfl ?_ | ((first | refine c_cond_d rfl (fun h => ?_) (fun h => ?_) | refine c_cond_n rfl (fun h => ?_) (fun h => ?_)) <;> (try (first | contradiction | (exfalso; omega)))) | refine c_cond_nb rfl (fun h => ?_) (fun h => ?_) | refine c_cond rfl (fun h => ?_) (fun h => ?_))) | refine c_block ?_ | refine c_skip ?_ | refine c_exit ?_ | refine c_regionQ rfl (by decide +kernel) ?_)) | apply s_stepQ | (refine kQG ?_; (first | refine s_gyesQ rfl rfl rfl ?_ | refine s_gnoQ rfl rfl rfl rfl rfl ?_ | ((first | refine s_splitQ_d rfl rfl (fun h => ?_) (fun h => ?_) | refine s_splitQ_n rfl rfl (fun h => ?_) (fun h => ?_)) <;> (try (first | contradiction | (exfalso; omega)))) | refine s_splitQ_nb rfl rfl (fun h => ?_) (fun h => ?_) | refine s_splitQ rfl rfl (fun h => ?_) (fun h => ?_))) | refine lQ_then ?_ | refine lQ_ends ?_ | (refine kE ?_; (first | refine e_then_r ?_ | refine e_block_r ?_ | refine e_then_n ?_ | refine e_then_x ?_ | refine e_block_n ?_ | refine e_block_x ?_ | refine e_block_y rfl ?_)) | refine l_ends ?_)
    · have q1 := hm j.1 (by omega)
      exact e_round (j.1 + 1, _) ⟨by dsimp only; omega, by dsimp only; repeat' first | exact hj2 | apply keepsDs_set | omega, by dsimp only; simp only [List.length_set]; exact hj3⟩ ⟨slook_to rfl (vint_to (by push_cast; rfl)), slook_to rfl (vint_to (by rw [hs j.1]; push_cast; omega)), (by repeat' first | exact trivial | refine ⟨rfl, ?_⟩)⟩ (fun w hw => hw.sub (selO_sub [false, true, false, true, true] _ _ rfl)) (by dsimp only; omega)
    · have e : j.1 = l.length := by omega
      exact s_leave1 rfl rfl (fun w hw => ⟨_, [], [], rfl, by rw [hsl, e]; exact vint_to (by push_cast; omega), hw.gone⟩)
theorem c_markScene (x : DScene) (v : Value) (H : SPiece) (k : Int) (W : World) (hv : OElems eSurf 139 v x.ss H) (hH : Holds W H) (hn : H.keys.Nodup) (hk : 0 ≤ k ∧ k ≤ 1000000000) (hl : x.ss.length ≤ 1048576 ∧ surfsLen x.ss ≤ 1048576) :
    SYieldsG Tryz.prog 30 #[vScene x v, .int .i64 k] H (fun u H' F => u = .int .i64 (k + 9 * x.ss.length + surfsLen x.ss)) W := by
  refine SYieldsG.mk (s_enterM Tryz.func30 rfl Tryz.ntmps30 rfl hH hn ?_)
  repeat' (first | exact rfl | (apply kO; (first | exact ov_pure rfl | (apply kOBin; (first | exact aBin)) | (apply kOCall; (first | (apply kCallB; (first | exact aBlt | exact aLenR)))) | (apply kOLoad; (first | exact aLdF | exact aLdR)) | exact ov_fieldAddr rfl | (apply kOIdx; (first | exact aIdx)) | exact aRest | exact aNew | exact (ov_field1 (ft := 31) rfl rfl rfl rfl))) | (refine kN ?_; (first | (refine kCall ?_; (first | (refine kWFn 91 ?_; (refine s_callG _ (H := H) (fun u H' F => u = .int .i64 (k + 9 * x.ss.length + surfsLen x.ss)) rfl gpA (fun w hw hh hn => c_markSurfaceS v x.ss H k w hv hh hn hk hl) rfl (fun u H' F hu => ?_); subst hu)) | apply s_step)) | (refine kStore ?_; (first | refine s_store1 _ rfl rfl gpA rfl (by rfl) ?_ | refine s_storeS _ rfl rfl gpA rfl rfl (by rfl) ?_ | refine s_storeS _ rfl rfl gpA rfl (ones_img oiA) (by rfl) ?_)) | refine s_boxS rfl rfl (fun b hb => ?_) | refine s_allocS rfl (fun b hb => ?_) | refine s_box1 rfl rfl rfl (fun b hb => ?_) | refine s_alloc1 rfl rfl (fun b hb => ?_) | refine s_buildSlice0 rfl (fun b hb => ?_) | refine s_buildSlice rfl rfl rfl rfl rfl (fun b hb => ?_) | apply s_step)) | (refine kG ?_; (first | refine s_gyes rfl rfl rfl ?_ | refine s_gno rfl rfl rfl rfl rfl ?_ | ((first | refine s_split_d rfl rfl (fun h => ?_) (fun h => ?_) | refine s_split_n rfl rfl (fun h => ?_) (fun h => ?_)) <;> (try (first | contradiction | (exfalso; omega)))) | refine s_split_nb rfl rfl (fun h => ?_) (fun h => ?_) | refine s_split rfl rfl (fun h => ?_) (fun h => ?_))) | refine l_then ?_ | (refine kC ?_; (first | refine c_seq ?_ | refine c_region ?_ | refine c_ret ?_ | (refine kCond ?_; (first | refine c_cond_t rfl ?_ | refine c_cond_f rfl ?_ | ((first | refine c_cond_d rfl (fun h => ?_) (fun h => ?_) | refine c_cond_n rfl (fun h => ?_) (fun h => ?_)) <;> (try (first | contradiction | (exfalso; omega)))) | refine c_cond_nb rfl (fun h => ?_) (fun h => ?_) | refine c_cond rfl (fun h => ?_) (fun h => ?_))) | refine c_block ?_ | refine c_skip ?_ | refine c_exit ?_ | refine c_regionQ rfl (by decide +kernel) ?_)) | apply s_stepQ | (refine kQG ?_; (first | refine s_gyesQ rfl rfl rfl ?_ | refine s_gnoQ rfl rfl rfl rfl rfl ?_ | ((first | refine s_splitQ_d rfl rfl (fun h => ?_) (fun h => ?_) | refine s_splitQ_n rfl rfl (fun h => ?_) (fun h => ?_)) <;> (try (first | contradiction | (exfalso; omega)))) | refine s_splitQ_nb rfl rfl (fun h => ?_) (fun h => ?_) | refine s_splitQ rfl rfl (fun h => ?_) (fun h => ?_))) | refine lQ_then ?_ | refine lQ_ends ?_ | (refine kE ?_; (first | refine e_then_r ?_ | refine e_block_r ?_ | refine e_then_n ?_ | refine e_then_x ?_ | refine e_block_n ?_ | refine e_block_x ?_ | refine e_block_y rfl ?_)) | refine l_ends ?_)
  all_goals exact s_leave1 rfl rfl (fun w hw => ⟨_, [], [], rfl, rfl, hw.gone⟩)
section
variable {n : Nat} {lo : SMut} {s : World} {ops : Array Oper} {Q : Exit → Act → World → Prop} {E : SEnv} {L : SHeap} {dd : Nat} {ty : TypeId} {pos : String} {after : Array Edge} {rest : List Oper}
theorem s_markScene (i : Nat) (x : DScene) {v : Value} {k : Int} {H : SPiece} {args : List Operand} {ts : Array TypeId} (ha : svals E args = some [vScene x v, .int .i64 k]) (hv : OElems eSurf 139 v x.ss H) (hL : getL L i = some H) (hk : 0 ≤ k ∧ k ≤ 1000000000) (hl : x.ss.length ≤ 1048576 ∧ surfsLen x.ss ≤ 1048576) (hd : Nat.blt dd n = true)
    (c : ∀ H' F, WPL Tryz.prog n lo s ops Q rest ((dd, .int .i64 (k + 9 * x.ss.length + surfsLen x.ss)) :: E) (F :: setL L i H')) :
    WPL Tryz.prog n lo s ops Q (⟨some dd, .call { callee := .value (.func 30), args := args.toArray, argTypes := ts }, ty, pos, after, none⟩ :: rest) E L :=
  s_callG i (fun u H' F => u = .int .i64 (k + 9 * x.ss.length + surfsLen x.ss)) ha hL (fun w hw hh hn => c_markScene x v H k w hv hh hn hk hl) hd (fun v' H' F hu => by subst hu; exact c H' F)
end
end Go.Proofs.YtfmjeakcfmmkfaaGreat
