/-
  Contracts: images that are loaded from their words.
-/
import Derived.Test.YtlapginiiioehaaK20
import Derived.Test.YtlapginiiioehaaK21
import Derived.Test.YtlapginiiioehaaKU
import Derived.Test.YtlapginiiioehaaK9
import Derived.Test.YtlapginiiioehaaK12
set_option linter.unusedVariables false
namespace Go.Proofs.Ytlapginiiioehaa
open Go Sx
attribute [local irreducible] Exit.then Exit.inBlock bodyPost
section
variable {P : Program} {n : Nat} {lo : SMut} {s : World} {ops : Array Oper} {Q : Exit → Act → World → Prop} {E : SEnv} {L : SHeap} {d : Nat} {ty : TypeId} {pos : String} {after : Array Edge} {rest : List Oper}
/-- append of a slice that is read, not empty, to an own slice of ints -/
theorem s_appendR (i : Nat) {t e : TypeId} {x y : Operand} {v u z : Value} {by_ : Nat} {l ys : List Int} {H : SPiece} {X : TypeId} [hu : SUnd P t (.slice e)] [hinf : SInf P e z 1 by_]
    (hx : sval E x = some v) (hy : sval E y = some u) (hv : OInts e v l H) (hL : getL L i = some H) (hr : ∀ w, SSt lo s L w → RInts w u ys) (hne : 0 < ys.length)
    (hz : z.oneCell' = true) (hb : l.length + ys.length ≤ 1000000000) (hby : by_ ≤ 64) (hd : Nat.blt d n = true)
    (k : ∀ v' H', OInts e v' (l ++ ys) H' → WPL P n lo s ops Q rest ((d, v') :: E) (setL L i H')) :
    WPL P n lo s ops Q (⟨some d, .call { callee := .builtin .append, args := #[x, y], argTypes := #[t, t] }, X, pos, after, none⟩ :: rest) E L := by
  have hc : z.cells.size = 1 := by cases z <;> first | rfl | simp [Value.oneCell'] at hz
  have hmul : (l.length + ys.length) * by_ ≤ 1000000000 * 64 := Nat.mul_le_mul hb hby
  refine s_append i (ys := ivals ys) (m := ys.length) hx hy hv hL hc (by omega) (by simp [ivals]) (oneCells_ivals ys) (fun w hw => ?_) (by omega) (by omega) hd (fun v' H' h => k v' H' ?_)
  · have h1 := hr w hw
    obtain ⟨a, c, he, hf⟩ := RRow.form h1
    obtain ⟨b, o, rfl⟩ := hf hne
    subst he
    exact ⟨_, c, rfl, fun j q hj => RInts.src h1 j q hj⟩
  · have := h
    unfold OInts
    rw [ivals_append, List.length_append]
    exact this
end
theorem _root_.Sx.SRes.cellF {P : Program} {E : SEnv} {L : SHeap} {t : Tmp} {T : TypeId} {b : Nat} {l : List Value} {td : TypeDesc} {z : Value} {k by_ : Nat} {r : List ResultVar} {vs : List Value} [hu : SUnd P T td] [hi : SInf P T z k by_]
    (ht : slook E t = some (.pointer (some ⟨b, 0, none⟩))) (hd : sisRow td = true) (hf : FindW L b k l) (h : SRes P E L r vs) : SRes P E L (.cell t T :: r) (.agg l.toArray :: vs) := by
  obtain ⟨⟨U, h1⟩, h2⟩ := hf
  exact .cell ht hd h1 h2 h
/-! ### plain: the loads -/
theorem expand_step {most : Int} {o words : List Int} {k : Nat} (hk : k + 1 < words.length) : expandF most o (words.drop k) = if 1 ≤ words.getD k 0 ∧ words.getD k 0 ≤ most - o.length then expandF most (o ++ List.replicate (words.getD k 0).toNat (words.getD (k + 1) 0)) (words.drop (k + 2)) else none := by
  have e : words.drop k = words.getD k 0 :: words.getD (k + 1) 0 :: words.drop (k + 2) := by
    rw [List.drop_eq_getElem_cons (show k < words.length by omega), List.drop_eq_getElem_cons (show k + 1 < words.length by omega)]
    simp [List.getD_eq_getElem?_getD, show k < words.length by omega, hk]
  rw [e, expandF]
theorem expand_done {most : Int} {o words : List Int} {k : Nat} (hk : words.length ≤ k + 1) : expandF most o (words.drop k) = some o := by
  have hl : (words.drop k).length ≤ 1 := by rw [List.length_drop]; omega
  match hd : words.drop k, hl with
  | [], _ => rfl
  | [x], _ => rfl
  | x :: y :: r, h => simp at h
theorem load_yes {words : List Int} {w h lay : Int} {d : List Int} (hs : (1 ≤ w ∧ w ≤ 16) ∧ (1 ≤ h ∧ h ≤ 16)) (hd : loadData words w h lay = d) (h2 : (storeImage ⟨w, h, d⟩ lay).2 = true) (h1 : (storeImage ⟨w, h, d⟩ lay).1 = words) : loadImage words w h lay = (⟨w, h, d⟩, true) := by
  subst hd
  have hok : (⟨w, h, loadData words w h lay⟩ : DImg).ok ∧ (0 ≤ lay ∧ lay ≤ 2) := by
    by_cases e : (⟨w, h, loadData words w h lay⟩ : DImg).ok ∧ (0 ≤ lay ∧ lay ≤ 2)
    · exact e
    · unfold storeImage at h2; rw [if_neg e] at h2; cases h2
  unfold loadImage
  rw [if_pos ⟨⟨hs.1, hs.2, hok.2⟩, hok.1, h1⟩]
theorem load_no {words : List Int} {w h lay : Int} {d : List Int} (hd : loadData words w h lay = d) (hn : (storeImage ⟨w, h, d⟩ lay).2 = false ∨ (storeImage ⟨w, h, d⟩ lay).1 ≠ words) : loadImage words w h lay = (DImg.zero, false) := by
  subst hd
  unfold loadImage
  rw [if_neg]
  rintro ⟨h1, h2, h3⟩
  rcases hn with hn | hn
  · unfold storeImage at hn; rw [if_pos ⟨h2, h1.2.2⟩] at hn; cases hn
  · exact hn h3
theorem load_bad {words : List Int} {w h lay : Int} (hn : ¬ ((1 ≤ w ∧ w ≤ 16) ∧ (1 ≤ h ∧ h ≤ 16) ∧ (0 ≤ lay ∧ lay ≤ 2))) : loadImage words w h lay = (DImg.zero, false) := by
  unfold loadImage
  rw [if_neg (fun hh => hn hh.1)]
/-- a run is out of range -/
theorem load_short {words : List Int} {w h lay : Int} (hl : lay = 2) (hn : expandF (w * h) [] words = none) : loadImage words w h lay = (DImg.zero, false) := by
  unfold loadImage
  rw [if_neg]
  rintro ⟨h1, h2, h3⟩
  have hd : loadData words w h lay = [] := by unfold loadData expand; rw [if_pos hl, hn]; rfl
  rw [hd] at h2
  exact nodata_not_ok w h h2
theorem loadData_runs {words : List Int} {w h lay : Int} {o : List Int} (hl : lay = 2) (hn : expandF (w * h) [] words = some o) : loadData words w h lay = o := by
  unfold loadData expand; rw [if_pos hl, hn]; rfl
theorem loadData_none {words : List Int} {w h lay : Int} (hl : lay ≠ 2) (hn : wordCount w h lay ≠ words.length) : loadData words w h lay = [] := by
  unfold loadData; rw [if_neg hl, if_neg hn]
theorem loadData_plain {words : List Int} {w h lay : Int} (hl : lay ≠ 2) (hn : wordCount w h lay = words.length) : loadData words w h lay = mapTo (fun x y => words.getD (wplace w lay x y).toNat 0) w (w * h).toNat := by
  unfold loadData; rw [if_neg hl, if_pos hn]
theorem c_loadClosure (l : List Int) (v : Value) (pw ph lay x y : Int) (p q r : Nat) (W : World) (hl : lay = 0 ∨ lay = 1) (hpw : 1 ≤ pw ∧ pw ≤ 16) (hph : 1 ≤ ph ∧ ph ≤ 16) (hx : 0 ≤ x ∧ x < pw) (hy : 0 ≤ y ∧ y < ph) (hlen : wordCount pw ph lay = l.length) (hd : RInts W v l)
    (c1 : ∀ j u, [v][j]? = some u → W.cell? ⟨p, j, none⟩ = some u) (c2 : ∀ j u, [Value.int .i64 pw][j]? = some u → W.cell? ⟨q, j, none⟩ = some u) (c3 : ∀ j u, [Value.int .i64 lay][j]? = some u → W.cell? ⟨r, j, none⟩ = some u) :
    SYields Try.prog 74 #[.int .i64 x, .int .i64 y, .pointer (some ⟨p, 0, none⟩), .pointer (some ⟨q, 0, none⟩), .pointer (some ⟨r, 0, none⟩)] (.int .i64 (l.getD (wplace pw lay x y).toNat 0)) W := by
  have hb := wplace_bd hpw hph hl hx hy
  have hd' := hd.form
  obtain ⟨_, _, rfl⟩ := hd'
  (first | apply SYields.mk | apply SYieldsF.mk | skip); refine s_enter Try.func74 rfl Try.ntmps74 rfl ?_
  repeat' (first | exact rfl | (apply kO; (first | exact ov_pure rfl | (apply kOBin; (first | exact (ov_add rfl rfl (by omega)) | exact (ov_sub rfl rfl (by omega)) | exact (ov_mul rfl rfl (by omega)) | exact (ov_quo rfl rfl (by omega)) | exact (ov_rem rfl rfl (by omega)) | exact (ov_mask 8 rfl rfl (by decide) (by decide)) | exact (ov_mask 6 rfl rfl (by decide) (by decide)) | exact (ov_mask 1 rfl rfl (by decide) (by decide)) | exact (ov_mask 24 rfl rfl (by decide) (by decide)) | exact (ov_shlN 8 256 (by decide) (by decide) rfl rfl (by omega)) | exact (ov_shlN 6 64 (by decide) (by decide) rfl rfl (by omega)) | exact (ov_shlN 24 16777216 (by decide) (by decide) rfl rfl (by omega)) | exact (ov_shlN 16 65536 (by decide) (by decide) rfl rfl (by omega)) | exact (ov_shlN 12 4096 (by decide) (by decide) rfl rfl (by omega)) | exact (ov_shr rfl rfl (by omega)) | exact (ov_rem' rfl rfl (by omega)) | exact (ov_quo' rfl rfl (by omega)) | exact (ov_eqlb rfl rfl) | exact (ov_neqb rfl rfl) | exact (ov_eqNil rfl rfl))) | (apply kOCall; (first | (apply kCallF; (first | exact (ov_call rfl (fun w hw => c_iwp _ _ _ _ w hpw hx (by omega))))) | (apply kCallB; (first | exact (ov_len rfl) | exact (ov_min rfl rfl) | exact (ov_max rfl rfl) | exact (ov_lenR (fun w hw => (by first | exact RRow.keep (by assumption) (hw.cells rfl) | exact (RElems.keep (by assumption) (hw.cells rfl)).row | exact OInts.reads (by assumption) (by revert hw; repeat' first | exact holds_hd | refine holds_tl ?_) | exact (RBytes.keep (by assumption) (hw.cells rfl)).1 | exact RRow.keepM (by assumption) (by assumption) hw)) rfl))))) | (apply kOLoad; (first | exact (ov_load_at rfl rfl (fun w hw => hw.cells rfl _ _ (c1 0 _ rfl))) | exact (ov_load_at rfl rfl (fun w hw => hw.cells rfl _ _ (c2 0 _ rfl))) | exact (ov_load_at rfl rfl (fun w hw => hw.cells rfl _ _ (c3 0 _ rfl))) | exact (ov_loadF rfl rfl (by repeat' first | exact fc_hd rfl | apply fc_tl)) | exact (ov_loadSF rfl rfl (by repeat' first | exact fs_hd rfl | apply fs_tl)) | exact (ov_ldR0 (fun w hw => (by first | exact RRow.keep (by assumption) (hw.cells rfl) | exact (RElems.keep (by assumption) (hw.cells rfl)).row | exact OInts.reads (by assumption) (by revert hw; repeat' first | exact holds_hd | refine holds_tl ?_) | exact (RBytes.keep (by assumption) (hw.cells rfl)).1 | exact RRow.keepM (by assumption) (by assumption) hw)) rfl rfl (by omega) rfl) | exact (ov_ldR (fun w hw => (by first | exact RRow.keep (by assumption) (hw.cells rfl) | exact (RElems.keep (by assumption) (hw.cells rfl)).row | exact OInts.reads (by assumption) (by revert hw; repeat' first | exact holds_hd | refine holds_tl ?_) | exact (RBytes.keep (by assumption) (hw.cells rfl)).1 | exact RRow.keepM (by assumption) (by assumption) hw)) rfl rfl (by omega) rfl) | exact (ov_ldRZ (fun w hw => (by first | exact RRow.keep (by assumption) (hw.cells rfl) | exact (RElems.keep (by assumption) (hw.cells rfl)).row | exact OInts.reads (by assumption) (by revert hw; repeat' first | exact holds_hd | refine holds_tl ?_) | exact (RBytes.keep (by assumption) (hw.cells rfl)).1 | exact RRow.keepM (by assumption) (by assumption) hw)) rfl rfl (by omega) rfl))) | exact ov_fieldAddr rfl | (apply kOIdx; (first | exact (ov_idxR (fun w hw => (by first | exact RRow.keep (by assumption) (hw.cells rfl) | exact (RElems.keep (by assumption) (hw.cells rfl)).row | exact OInts.reads (by assumption) (by revert hw; repeat' first | exact holds_hd | refine holds_tl ?_) | exact (RBytes.keep (by assumption) (hw.cells rfl)).1 | exact RRow.keepM (by assumption) (by assumption) hw)) rfl rfl (by omega)) | exact (ov_indexAddr rfl rfl (by omega)))) | exact (ov_neg rfl (by omega)) | exact (ov_conv rfl (by omega)) | exact (ov_build rfl rfl) | exact (ov_field1 (ft := 33) rfl rfl rfl rfl) | exact (ov_makeFunc rfl rfl))) | (refine kN ?_; (first | (refine kStore ?_; (first | refine s_store1 _ rfl rfl (by repeat' first | exact gp_hd | apply gp_tl) rfl (by rfl) ?_ | refine s_storeS _ rfl rfl (by repeat' first | exact gp_hd | apply gp_tl) rfl rfl (by rfl) ?_ | refine s_storeS _ rfl rfl (by repeat' first | exact gp_hd | apply gp_tl) rfl (ones_img (by first | exact OInts.one (by assumption) | exact RInts.one (by assumption))) (by rfl) ?_)) | refine s_boxS rfl rfl (fun b hb => ?_) | refine s_allocS rfl (fun b hb => ?_) | refine s_box1 rfl rfl rfl (fun b hb => ?_) | refine s_alloc1 rfl rfl (fun b hb => ?_) | refine s_buildSlice0 rfl (fun b hb => ?_) | refine s_buildSlice rfl rfl rfl rfl rfl (fun b hb => ?_) | apply s_step)) | (refine kG ?_; (first | refine s_gyes rfl rfl rfl ?_ | refine s_gno rfl rfl rfl rfl rfl ?_ | (refine s_split_d rfl rfl (fun h => ?_) (fun h => ?_) <;> (try (first | contradiction | (exfalso; omega)))) | (refine s_split_n rfl rfl (fun h => ?_) (fun h => ?_) <;> (try (first | contradiction | (exfalso; omega)))) | refine s_split_nb rfl rfl (fun h => ?_) (fun h => ?_) | refine s_split rfl rfl (fun h => ?_) (fun h => ?_))) | refine l_then ?_ | (refine kC ?_; (first | refine c_seq ?_ | refine c_region ?_ | refine c_ret ?_ | (refine kCond ?_; (first | refine c_cond_t rfl ?_ | refine c_cond_f rfl ?_ | (refine c_cond_d rfl (fun h => ?_) (fun h => ?_) <;> (try (first | contradiction | (exfalso; omega)))) | (refine c_cond_n rfl (fun h => ?_) (fun h => ?_) <;> (try (first | contradiction | (exfalso; omega)))) | refine c_cond_nb rfl (fun h => ?_) (fun h => ?_) | refine c_cond rfl (fun h => ?_) (fun h => ?_))) | refine c_block ?_ | refine c_skip ?_ | refine c_exit ?_ | refine c_regionQ rfl (by decide +kernel) ?_)) | apply s_stepQ | (refine kQG ?_; (first | refine s_gyesQ rfl rfl rfl ?_ | refine s_gnoQ rfl rfl rfl rfl rfl ?_ | (refine s_splitQ_d rfl rfl (fun h => ?_) (fun h => ?_) <;> (try (first | contradiction | (exfalso; omega)))) | (refine s_splitQ_n rfl rfl (fun h => ?_) (fun h => ?_) <;> (try (first | contradiction | (exfalso; omega)))) | refine s_splitQ_nb rfl rfl (fun h => ?_) (fun h => ?_) | refine s_splitQ rfl rfl (fun h => ?_) (fun h => ?_))) | refine lQ_then ?_ | refine lQ_ends ?_ | (refine kE ?_; (first | refine e_then_r ?_ | refine e_block_r ?_ | refine e_then_n ?_ | refine e_then_x ?_ | refine e_block_n ?_ | refine e_block_x ?_ | refine e_block_y rfl ?_)) | refine l_ends ?_)
  all_goals refine s_leave1 rfl rfl (fun w hw => ⟨?_, hw.below⟩)
  all_goals rfl
set_option maxHeartbeats 2000000 in
theorem c_l15Expand (v : Value) (words : List Int) (most : Int) (W : World) (hv : RInts W v words) (hl : words.length ≤ 1000000000) (hm : 0 ≤ most ∧ most ≤ 256) : SYieldsF Try.prog 79 #[v, .int .i64 most] (fun u H => OInts 3 u (expand most words) H) W := by
  have hv' := hv.form
  obtain ⟨_, _, rfl⟩ := hv'
  (first | apply SYields.mk | apply SYieldsF.mk | skip); refine s_enter Try.func79 rfl Try.ntmps79 rfl ?_
  repeat' (first | exact rfl | (apply kO; (first | exact ov_pure rfl | (apply kOBin; (first | exact (ov_add rfl rfl (by omega)) | exact (ov_sub rfl rfl (by omega)) | exact (ov_mul rfl rfl (by omega)) | exact (ov_quo rfl rfl (by omega)) | exact (ov_rem rfl rfl (by omega)) | exact (ov_mask 8 rfl rfl (by decide) (by decide)) | exact (ov_mask 6 rfl rfl (by decide) (by decide)) | exact (ov_mask 1 rfl rfl (by decide) (by decide)) | exact (ov_mask 24 rfl rfl (by decide) (by decide)) | exact (ov_shlN 8 256 (by decide) (by decide) rfl rfl (by omega)) | exact (ov_shlN 6 64 (by decide) (by decide) rfl rfl (by omega)) | exact (ov_shlN 24 16777216 (by decide) (by decide) rfl rfl (by omega)) | exact (ov_shlN 16 65536 (by decide) (by decide) rfl rfl (by omega)) | exact (ov_shlN 12 4096 (by decide) (by decide) rfl rfl (by omega)) | exact (ov_shr rfl rfl (by omega)) | exact (ov_rem' rfl rfl (by omega)) | exact (ov_quo' rfl rfl (by omega)) | exact (ov_eqlb rfl rfl) | exact (ov_neqb rfl rfl) | exact (ov_eqNil rfl rfl))) | (apply kOCall; (first | (apply kCallF; (first | exact (ov_call rfl (fun w hw => c_l01In _ _ _ w)))) | (apply kCallB; (first | exact (ov_len rfl) | exact (ov_min rfl rfl) | exact (ov_max rfl rfl) | exact (ov_lenR (fun w hw => (by first | exact RRow.keep (by assumption) (hw.cells rfl) | exact (RElems.keep (by assumption) (hw.cells rfl)).row | exact OInts.reads (by assumption) (by revert hw; repeat' first | exact holds_hd | refine holds_tl ?_) | exact (RBytes.keep (by assumption) (hw.cells rfl)).1 | exact RRow.keepM (by assumption) (by assumption) hw)) rfl))))) | (apply kOLoad; (first | exact (ov_loadF rfl rfl (by repeat' first | exact fc_hd rfl | apply fc_tl)) | exact (ov_loadSF rfl rfl (by repeat' first | exact fs_hd rfl | apply fs_tl)) | exact (ov_ldR0 (fun w hw => (by first | exact RRow.keep (by assumption) (hw.cells rfl) | exact (RElems.keep (by assumption) (hw.cells rfl)).row | exact OInts.reads (by assumption) (by revert hw; repeat' first | exact holds_hd | refine holds_tl ?_) | exact (RBytes.keep (by assumption) (hw.cells rfl)).1 | exact RRow.keepM (by assumption) (by assumption) hw)) rfl rfl (by omega) rfl) | exact (ov_ldR (fun w hw => (by first | exact RRow.keep (by assumption) (hw.cells rfl) | exact (RElems.keep (by assumption) (hw.cells rfl)).row | exact OInts.reads (by assumption) (by revert hw; repeat' first | exact holds_hd | refine holds_tl ?_) | exact (RBytes.keep (by assumption) (hw.cells rfl)).1 | exact RRow.keepM (by assumption) (by assumption) hw)) rfl rfl (by omega) rfl) | exact (ov_ldRZ (fun w hw => (by first | exact RRow.keep (by assumption) (hw.cells rfl) | exact (RElems.keep (by assumption) (hw.cells rfl)).row | exact OInts.reads (by assumption) (by revert hw; repeat' first | exact holds_hd | refine holds_tl ?_) | exact (RBytes.keep (by assumption) (hw.cells rfl)).1 | exact RRow.keepM (by assumption) (by assumption) hw)) rfl rfl (by omega) rfl))) | exact ov_fieldAddr rfl | (apply kOIdx; (first | exact (ov_idxR (fun w hw => (by first | exact RRow.keep (by assumption) (hw.cells rfl) | exact (RElems.keep (by assumption) (hw.cells rfl)).row | exact OInts.reads (by assumption) (by revert hw; repeat' first | exact holds_hd | refine holds_tl ?_) | exact (RBytes.keep (by assumption) (hw.cells rfl)).1 | exact RRow.keepM (by assumption) (by assumption) hw)) rfl rfl (by omega)) | exact (ov_indexAddr rfl rfl (by omega)))) | exact (ov_neg rfl (by omega)) | exact (ov_conv rfl (by omega)) | exact (ov_build rfl rfl) | exact (ov_field1 (ft := 33) rfl rfl rfl rfl) | exact (ov_makeFunc rfl rfl))) | (refine kN ?_; (first | (refine kCall ?_; (first | (refine kWApp ?_; (refine s_appendI _ _ (ys := [_]) rfl rfl (by assumption) (by repeat' first | exact gp_hd | apply gp_tl) (by repeat' first | exact gp_hd | apply gp_tl) rfl rfl (by rw [List.length_append, List.length_replicate]; omega) (by decide) rfl (fun v' H' hv' => ?_); have f1 := hv'.form; obtain ⟨ua, uc, rfl⟩ := f1)) | apply s_step)) | (refine kStore ?_; (first | refine s_store1 _ rfl rfl (by repeat' first | exact gp_hd | apply gp_tl) rfl (by rfl) ?_ | refine s_storeS _ rfl rfl (by repeat' first | exact gp_hd | apply gp_tl) rfl rfl (by rfl) ?_ | refine s_storeS _ rfl rfl (by repeat' first | exact gp_hd | apply gp_tl) rfl (ones_img (by first | exact OInts.one (by assumption) | exact RInts.one (by assumption))) (by rfl) ?_)) | refine s_boxS rfl rfl (fun b hb => ?_) | refine s_allocS rfl (fun b hb => ?_) | refine s_box1 rfl rfl rfl (fun b hb => ?_) | refine s_alloc1 rfl rfl (fun b hb => ?_) | refine s_buildSlice0 rfl (fun b hb => ?_) | refine s_buildSlice rfl rfl rfl rfl rfl (fun b hb => ?_) | apply s_step)) | (refine kG ?_; (first | refine s_gyes rfl rfl rfl ?_ | refine s_gno rfl rfl rfl rfl rfl ?_ | (refine s_split_d rfl rfl (fun h => ?_) (fun h => ?_) <;> (try (first | contradiction | (exfalso; omega)))) | (refine s_split_n rfl rfl (fun h => ?_) (fun h => ?_) <;> (try (first | contradiction | (exfalso; omega)))) | refine s_split_nb rfl rfl (fun h => ?_) (fun h => ?_) | refine s_split rfl rfl (fun h => ?_) (fun h => ?_))) | refine l_then ?_ | (refine kC ?_; (first | (refine c_loopV (ι := Nat × List Int × Value × SPiece) (fun j => j.1 ≤ words.length + 1 ∧ OInts 3 j.2.2.1 j.2.1 j.2.2.2 ∧ (j.2.1.length : Int) ≤ most ∧ expandF most j.2.1 (words.drop j.1) = expandF most [] words) (fun j => [(5, j.2.2.1), (6, .int .i64 (j.1 : Int))]) (fun j => [j.2.2.2]) (fun j => words.length + 1 - j.1) (0, [], _, _) ⟨by dsimp only; omega, OInts.empty _ _, by dsimp only; simp; omega, rfl⟩ rfl (fun _ => rfl) ⟨rfl, rfl, trivial⟩ (fun w hw => hw) (fun j hj => ?_); obtain ⟨jk, jo, jv, jH⟩ := j; obtain ⟨hj1, hj2, hj3, hj4⟩ := hj; dsimp only at hj1 hj2 hj3 hj4; have f2 := hj2.form; obtain ⟨va, vc, rfl⟩ := f2) | (refine c_loopV (ι := Nat × Value × SPiece) (fun q => ((q.1 : Int) ≤ words.getD jk 0 ∧ 1 ≤ words.getD jk 0 ∧ (jo.length : Int) + words.getD jk 0 ≤ most) ∧ OInts 3 q.2.1 (jo ++ List.replicate q.1 (words.getD (jk + 1) 0)) q.2.2) (fun q => [(5, q.2.1), (7, .int .i64 (words.getD jk 0 - (q.1 : Int)))]) (fun q => [q.2.2]) (fun q => (words.getD jk 0).toNat - q.1) (0, _, _) ⟨by (try dsimp only at *); (try simp only [Int.toNat_natCast] at *); omega, by dsimp only; rw [List.replicate_zero, List.append_nil]; exact hj2⟩ rfl (fun _ => rfl) ⟨rfl, slook_to rfl (vint_to (by simp)), trivial⟩ (fun w hw => hw) (fun q hq => ?_); obtain ⟨qn, qv, qH⟩ := q; obtain ⟨hq1, hq2⟩ := hq; dsimp only at hq1 hq2; have f3 := hq2.form; obtain ⟨wa, wc, rfl⟩ := f3) | refine c_seq ?_ | refine c_region ?_ | refine c_ret ?_ | (refine kCond ?_; (first | refine c_cond_t rfl ?_ | refine c_cond_f rfl ?_ | (refine c_cond_d rfl (fun h => ?_) (fun h => ?_) <;> (try (first | contradiction | (exfalso; omega)))) | (refine c_cond_n rfl (fun h => ?_) (fun h => ?_) <;> (try (first | contradiction | (exfalso; omega)))) | refine c_cond_nb rfl (fun h => ?_) (fun h => ?_) | refine c_cond rfl (fun h => ?_) (fun h => ?_))) | refine c_block ?_ | refine c_skip ?_ | refine c_exit ?_ | refine c_regionQ rfl (by decide +kernel) ?_)) | apply s_stepQ | (refine kQG ?_; (first | refine s_gyesQ rfl rfl rfl ?_ | refine s_gnoQ rfl rfl rfl rfl rfl ?_ | (refine s_splitQ_d rfl rfl (fun h => ?_) (fun h => ?_) <;> (try (first | contradiction | (exfalso; omega)))) | (refine s_splitQ_n rfl rfl (fun h => ?_) (fun h => ?_) <;> (try (first | contradiction | (exfalso; omega)))) | refine s_splitQ_nb rfl rfl (fun h => ?_) (fun h => ?_) | refine s_splitQ rfl rfl (fun h => ?_) (fun h => ?_))) | refine lQ_then ?_ | refine lQ_ends ?_ | (refine kE ?_; (first | refine e_then_r ?_ | refine e_block_r ?_ | refine e_then_n ?_ | refine e_then_x ?_ | refine e_block_n ?_ | refine e_block_x ?_ | refine e_block_y rfl ?_)) | refine l_ends ?_)
  · rename_i h1
    dsimp only at h1 h
    simp only [Int.toNat_natCast] at h
    have he : expand most words = [] := by unfold expand; rw [← hj4, expand_step (by omega), if_neg h]; rfl
    rw [he]
    exact s_leave1 rfl rfl (fun w hw => ⟨_, _, rfl, OInts.empty _ _, hw.toFresh (i := 0) rfl⟩)
  · rename_i h1 h2
    dsimp only at h1 h2 h
    refine e_round (qn + 1, _, H') ⟨by dsimp only; push_cast; omega, ?_⟩ ⟨rfl, slook_to rfl (vint_to (by dsimp only; push_cast; omega)), (by repeat' first | exact trivial | refine ⟨rfl, ?_⟩)⟩ (fun w hw => hw.sub (selO_sub [false, true] _ _ rfl)) (by dsimp only; omega)
    dsimp only
    rw [List.replicate_succ', ← List.append_assoc]
    exact hv'
  · rename_i h1 h2
    dsimp only at h1 h2 h
    simp only [Int.toNat_natCast] at h2
    have hqn : qn = (words.getD jk 0).toNat := by omega
    refine e_round (jk + 2, _, _, _) ⟨by dsimp only; omega, hq2, ?_, ?_⟩ ⟨rfl, slook_to rfl (vint_to (by dsimp only; push_cast; rfl)), (by repeat' first | exact trivial | refine ⟨rfl, ?_⟩)⟩ (fun w hw => hw) (by dsimp only; omega)
    · dsimp only; rw [List.length_append, List.length_replicate]; push_cast; omega
    · dsimp only
      have he := expand_step (most := most) (o := jo) (words := words) (k := jk) (by omega)
      rw [if_pos h2, ← hqn] at he
      rw [← hj4, he]
  · dsimp only at h
    have he : expand most words = jo := by unfold expand; rw [← hj4, expand_done (by omega)]; rfl
    rw [he]
    exact s_leave1 rfl rfl (fun w hw => ⟨_, _, rfl, hj2, hw.toFresh (i := 0) rfl⟩)
theorem rints_nil (w : World) : RInts w (.slice none 0 0) [] := ⟨⟨none, 0, rfl, fun h => absurd h (by decide)⟩, by decide, fun i hi => absurd hi (by simp), fun i hi => absurd hi (by simp), Nat.le_refl 0⟩
def loaded (words : List Int) (w h lay : Int) (v : Value) (H : SPiece) : Prop := ∃ u, v = .tuple #[u, .bool (loadImage words w h lay).2] ∧ OImg u (loadImage words w h lay).1 H
end Go.Proofs.Ytlapginiiioehaa
