/-
  Contracts: a scene painted by the program.
-/
import Derived.Test.YtfmjeakcfmmkfaaGreatL1
import Derived.Test.YtfmjeakcfmmkfaaGreatL2
import Derived.Test.YtfmjeakcfmmkfaaGreatM11
import Derived.Test.YtfmjeakcfmmkfaaGreatK15
set_option linter.unusedVariables false
namespace Go.Proofs.YtfmjeakcfmmkfaaGreat
open Go Sx
attribute [local irreducible] Exit.then Exit.inBlock bodyPost oriented scaled pictureOf rawPicture
theorem apart_new {s w : World} {L : SHeap} {i : Nat} {H : SPiece} {v : Value} {l : List Int} (hw : SSt [] s L w) (hL : getL L i = some H) (hv : RInts s v l) (hne : 0 < l.length) : Apart H.keys v := by
  unfold Apart
  intro hm
  obtain ⟨⟨k, o⟩, h1, h2⟩ := List.mem_map.1 hm
  have h3 := hv.cell 0 hne 0 _ rfl
  have h4 := World.block_lt_of_cell? s _ h3
  have h5 := (hw.blocks k o (getL_flat hL h1)).1
  simp only [List.not_mem_nil, false_or] at h5
  dsimp only at h2 h4
  omega
theorem pic_len {s : DSurf} (h : s.ok) : (pictureOf s).data.length = ((surfSize s).1 * (surfSize s).2).toNat := by
  have h1 := surfSize_pic h
  rw [(pictureOf_ok h).lenN, h1.1, h1.2]
/-- the first j rows of a rectangle -/
def rowsG (r : DRect) (j : Nat) : Grid := fun y x => r.holds y x && decide ((y : Int) < r.Y + j)
theorem rowsG_zero (r : DRect) : (rowsG r 0).eqv Grid.none := fun y x hy hx => by
  unfold rowsG DRect.holds Grid.none
  rw [← Bool.decide_and]; exact decide_eq_false (fun hh => by have h1 := hh.1.2; have h2 := hh.2; omega)
theorem rowsG_next {r : DRect} (h : r.ok) (h0 : 0 ≤ r.X ∧ 0 ≤ r.Y) {j : Nat} (hj : (j : Int) < r.H) : (Grid.row (rowsG r j) (r.Y + j).toNat (fun i => decide (r.X.toNat ≤ i ∧ i < r.X.toNat + r.W.toNat))).eqv (rowsG r (j + 1)) := fun y x hy hx => by
  have h' := h
  unfold DRect.ok at h'
  unfold Grid.row rowsG DRect.holds
  by_cases e : y = (r.Y + j).toNat
  · subst e
    rw [if_pos rfl, ← Bool.decide_and]
    exact decide_eq_decide.2 ⟨fun hh => ⟨⟨h, by omega⟩, by push_cast; omega⟩, fun hh => by have h1 := hh.1.2; omega⟩
  · rw [if_neg e, ← Bool.decide_and, ← Bool.decide_and]
    exact decide_eq_decide.2 ⟨fun hh => ⟨hh.1, by push_cast; omega⟩, fun hh => ⟨hh.1, by have h1 := hh.2; have h2 := hh.1.2; push_cast at h1; omega⟩⟩
theorem rowsG_all {r : DRect} {j : Nat} (hj : r.H ≤ (j : Int)) : (rowsG r j).eqv (rectG r) := fun y x hy hx => by
  unfold rowsG rectG DRect.holds
  rw [← Bool.decide_and]
  exact decide_eq_decide.2 ⟨fun hh => hh.1, fun hh => ⟨hh, by have := hh.2; omega⟩⟩
theorem inter_screen_in (r : DRect) : 0 ≤ (r.inter DRect.screen).X ∧ 0 ≤ (r.inter DRect.screen).Y ∧ 0 ≤ (r.inter DRect.screen).W ∧ 0 ≤ (r.inter DRect.screen).H ∧ (r.inter DRect.screen).X + (r.inter DRect.screen).W ≤ 16 ∧ (r.inter DRect.screen).Y + (r.inter DRect.screen).H ≤ 16 := by
  by_cases h : r.ok
  · unfold DRect.inter
    rw [if_pos ⟨h, screen_ok⟩]
    unfold DRect.ok at h
    split
    · unfold DRect.zero; dsimp only; omega
    · rename_i hh; unfold DRect.screen at hh ⊢; dsimp only at hh ⊢; omega
  · rw [inter_not (.inl h)]; unfold DRect.zero; dsimp only; omega
theorem span_val {X W : Int} (h1 : 0 ≤ X) (h2 : 0 ≤ W) (h3 : X + W ≤ 16) : (((2 ^ W.toNat : Nat) : Int) - 1) * 2 ^ X.toNat = (Sx.bits (fun i => decide (X.toNat ≤ i ∧ i < X.toNat + W.toNat)) 16 : Nat) := by
  rw [← bits_span (X := X.toNat) (W := W.toNat) (n := 16) (by omega)]
  have : 1 ≤ 2 ^ W.toNat := Nat.pow_pos (by omega)
  push_cast [this]
  rfl
section
variable {P : Program} {n : Nat} {lo : SMut} {s : World} {E : SEnv} {L : SHeap} {d : Option Tmp} {ty : TypeId} {pos : String} {after : Array Edge} {g0 : Option (Nat × Bool)} {x y : Operand} {xt yt : TypeId}
theorem ov_span {kj : IntKind} {X W : Int} (hx : sval E x = some (.int .i64 (((2 ^ W.toNat : Nat) : Int) - 1))) (hy : sval E y = some (.int kj X)) (h1 : 0 ≤ X) (h2 : 0 ≤ W) (h3 : X + W ≤ 16) :
    SOpV P n lo s E L ⟨d, .binOp .shl xt x y yt, ty, pos, after, g0⟩ (.int .i64 (Sx.bits (fun i => decide (X.toNat ≤ i ∧ i < X.toNat + W.toNat)) 16 : Nat)) := by
  have hb := bits16 (fun i => decide (X.toNat ≤ i ∧ i < X.toNat + W.toNat))
  rw [← span_val h1 h2 h3] at hb ⊢
  exact ov_shl hx hy (by omega) (by omega)
end
theorem pow_bd {j : Int} (h : 0 ≤ j ∧ j ≤ 16) : 1 ≤ ((2 ^ j.toNat : Nat) : Int) ∧ ((2 ^ j.toNat : Nat) : Int) ≤ 65536 := by
  have h1 : 2 ^ j.toNat ≤ 2 ^ 16 := Nat.pow_le_pow_right (by omega) (by omega)
  have h2 : 0 < 2 ^ j.toNat := Nat.pow_pos (by omega)
  have hm : ∀ m : Nat, 0 < m → m ≤ 2 ^ 16 → 1 ≤ (m : Int) ∧ (m : Int) ≤ 65536 := fun m a b => by omega
  exact hm _ h2 h1
theorem mapTo_pixD {f : Int → Int → Int} (h : ∀ x y, pixP (f x y)) (w : Int) (n q : Nat) : pixP ((mapTo f w n).getD q 0) := by
  by_cases e : q < n
  · rw [mapTo_get f w e]; exact h _ _
  · rw [List.getD_eq_getElem?_getD, List.getElem?_eq_none (by rw [mapTo_length]; omega)]; unfold pixP; simp
theorem c_gridOf (r0 : DRect) (w : World) : SYields Tryz.prog 102 #[vRect r0] (gval (rectG r0)) w := by
  rw [← gval_congr (inter_screen (r := r0))]
  have hin := inter_screen_in r0
  have hok : (r0.inter DRect.screen).ok := by unfold DRect.ok; omega
  (first | apply SYields.mk | apply SYieldsF.mk | skip); refine s_enter Tryz.func102 rfl Tryz.ntmps102 rfl ?_
  repeat' (first | exact rfl | (apply kO; (first | exact ov_pure rfl | (apply kOBin; (first | exact aBin | exact (ov_sub rfl rfl (by have := pow_bd (j := (r0.inter DRect.screen).W) (by omega); omega)))) | (apply kOCall; (first | (apply kCallF; (first | exact (ov_call rfl (fun w hw => c_iintersect r0 DRect.screen w)))) | (apply kCallB; (first | exact aBlt | exact aLenR)))) | (apply kOLoad; (first | exact aLdF | exact aLdR)) | exact ov_fieldAddr rfl | (apply kOIdx; (first | exact (ov_indexAddrA rfl rfl (by omega)) | exact aIdx)) | exact aRest | exact (ov_bit rfl rfl (by omega)) | exact (ov_span rfl rfl (by omega) (by omega) (by omega)) | exact (ov_buildA0) | exact aNew | exact (ov_field1 (ft := 31) rfl rfl rfl rfl))) | (refine kN ?_; (first | (refine kStore ?_; (first | (refine s_setR _ rfl rfl gpA rfl (by simp [gl]; omega) ?_) | refine s_store1 _ rfl rfl gpA rfl (by rfl) ?_ | refine s_storeS _ rfl rfl gpA rfl rfl (by rfl) ?_ | refine s_storeS _ rfl rfl gpA rfl (ones_img oiA) (by rfl) ?_)) | refine s_boxS rfl rfl (fun b hb => ?_) | refine s_allocS rfl (fun b hb => ?_) | refine s_box1 rfl rfl rfl (fun b hb => ?_) | refine s_alloc1 rfl rfl (fun b hb => ?_) | refine s_buildSlice0 rfl (fun b hb => ?_) | refine s_buildSlice rfl rfl rfl rfl rfl (fun b hb => ?_) | apply s_step)) | (refine kG ?_; (first | refine s_gyes rfl rfl rfl ?_ | refine s_gno rfl rfl rfl rfl rfl ?_ | ((first | refine s_split_d rfl rfl (fun h => ?_) (fun h => ?_) | refine s_split_n rfl rfl (fun h => ?_) (fun h => ?_)) <;> (try (first | contradiction | (exfalso; omega)))) | refine s_split_nb rfl rfl (fun h => ?_) (fun h => ?_) | refine s_split rfl rfl (fun h => ?_) (fun h => ?_))) | (refine kS ?_; (first | refine h_exec rfl ?_ | refine h_take_nil rfl rfl rfl ?_ | refine h_take_pick rfl rfl rfl ?_ | refine h_nil ?_ | refine h_alt ?_ ?_ | apply h_take)) | refine h_back_last rfl ?_ | refine h_back subA ?_ | refine l_then ?_ | (refine kC ?_; (first | (refine c_regionS (SPlan.take 0 (SPlan.take 1 (SPlan.take 2 (SPlan.take 3 (SPlan.take 4 (SPlan.take 5 (SPlan.take 6 (SPlan.take 7 (SPlan.take 8 (SPlan.run 9 SPlan.done)))))))))) (some 9) rfl (by decide +kernel) ?_) | (refine c_regionS (SPlan.take 0 (SPlan.take 1 (SPlan.take 2 (SPlan.take 3 (SPlan.take 4 (SPlan.take 5 (SPlan.take 6 (SPlan.take 7 (SPlan.take 8 (SPlan.run 9 SPlan.done)))))))))) none rfl (by decide +kernel) ?_) | (refine c_loopV (ι := Nat) (fun j => (j : Int) ≤ (r0.inter DRect.screen).H) (fun j => [(4, .int .i64 ((r0.inter DRect.screen).Y + j))]) (fun j => [[(_, srow (gl (rowsG (r0.inter DRect.screen) j)) _)], _, _]) (fun j => (r0.inter DRect.screen).H.toNat - j) 0 (by omega) rfl (fun _ => rfl) ⟨slook_to rfl (vint_to (by simp)), trivial⟩ (fun w hw => by rw [gl_congr (rowsG_zero _)]; exact hw) (fun j hj => ?_)) | refine c_seq ?_ | refine c_region ?_ | refine c_ret ?_ | (refine kCond ?_; (first | refine c_cond_t rfl ?_ | refine c_cond_f rfl ?_ | ((first | refine c_cond_d rfl (fun h => ?_) (fun h => ?_) | refine c_cond_n rfl (fun h => ?_) (fun h => ?_)) <;> (try (first | contradiction | (exfalso; omega)))) | refine c_cond_nb rfl (fun h => ?_) (fun h => ?_) | refine c_cond rfl (fun h => ?_) (fun h => ?_))) | refine c_block ?_ | refine c_skip ?_ | refine c_exit ?_ | refine c_regionQ rfl (by decide +kernel) ?_)) | apply s_stepQ | (refine kQG ?_; (first | refine s_gyesQ rfl rfl rfl ?_ | refine s_gnoQ rfl rfl rfl rfl rfl ?_ | ((first | refine s_splitQ_d rfl rfl (fun h => ?_) (fun h => ?_) | refine s_splitQ_n rfl rfl (fun h => ?_) (fun h => ?_)) <;> (try (first | contradiction | (exfalso; omega)))) | refine s_splitQ_nb rfl rfl (fun h => ?_) (fun h => ?_) | refine s_splitQ rfl rfl (fun h => ?_) (fun h => ?_))) | refine lQ_then ?_ | refine lQ_ends ?_ | (refine kE ?_; (first | refine e_then_r ?_ | refine e_block_r ?_ | refine e_then_n ?_ | refine e_then_x ?_ | refine e_block_n ?_ | refine e_block_x ?_ | refine e_block_y rfl ?_)) | refine l_ends ?_)
  · refine e_round (j + 1) (by push_cast; omega) ⟨slook_to rfl (vint_to (by push_cast; omega)), (by repeat' first | exact trivial | refine ⟨rfl, ?_⟩)⟩ (fun w hw => ?_) (by omega)
    have e : (gl (rowsG (r0.inter DRect.screen) j)).set (0 + ((r0.inter DRect.screen).Y + j).toNat * 1) (.int .i64 (Sx.bits (fun i => decide ((r0.inter DRect.screen).X.toNat ≤ i ∧ i < (r0.inter DRect.screen).X.toNat + (r0.inter DRect.screen).W.toNat)) 16 : Nat)) = gl (rowsG (r0.inter DRect.screen) (j + 1)) := by
      rw [Nat.zero_add, Nat.mul_one, gl_set _ (by omega), gl_congr (rowsG_next hok ⟨by omega, by omega⟩ (by omega))]
    rw [← e]; exact hw
  · refine s_leaveSF rfl rfl rfl fwA (fun w hw => ⟨?_, hw.below⟩)
    show Ending.returned (gval (rowsG (r0.inter DRect.screen) j)) = _
    rw [gval_congr (rowsG_all (by omega))]
set_option maxHeartbeats 2000000 in
theorem c_paintOne (pw ph : Int) (old : Int → Int → Int) (v : Value) (q : DSurf) (ds : Value) (g : Grid) (H : SPiece) (W : World) (hpw : 1 ≤ pw ∧ pw ≤ 16) (hph : 1 ≤ ph ∧ ph ≤ 16) (hq : q.ok) (hpx : ∀ a c, pixP (old a c)) (hv : OInts 3 v (mapTo old pw (pw * ph).toNat) H) (hd : RInts W ds q.buf.data) (hap : Apart H.keys ds) (hH : Holds W H) (hn : H.keys.Nodup) :
    SYieldsG Tryz.prog 106 #[.agg #[.int .i64 pw, .int .i64 ph, v], vSurf q ds, gval g] H (fun u H' F => u = .int .i64 (hitN q g pw ph ((surfSize q).1 * (surfSize q).2).toNat) ∧ OInts 3 v (mapTo (oneTo q g old ((surfSize q).1 * (surfSize q).2).toNat) pw (pw * ph).toNat) H' ∧ F = []) W := by
  have hpl := pic_len hq
  have hsz := surfSize_bd hq
  have hps := surfSize_pic hq
  have hwh := side_mul (w := pw) (h := ph) ⟨hpw.1, hpw.2, hph.1, hph.2⟩
  have hN := side_mul (w := (surfSize q).1) (h := (surfSize q).2) ⟨hsz.1.1, hsz.1.2, hsz.2.1, hsz.2.2⟩
  have hq' := hq
  unfold DSurf.ok at hq'
  have hm := fun k => mod_row (w := (pictureOf q).W) (q := k) (by rw [hps.1]; exact hsz.1.1)
  have hdv := fun (k : Nat) (hk : k < ((surfSize q).1 * (surfSize q).2).toNat) => div_lt (w := (surfSize q).1) (h := (surfSize q).2) (q := k) hsz.1.1 hk
  have hhb := fun k => hitN_bd q g pw ph k
  have hdv' := fun (k : Nat) (hk : k < ((surfSize q).1 * (surfSize q).2).toNat) => (show (k : Int) / (pictureOf q).W < (surfSize q).2 by rw [hps.1]; exact hdv k hk)
  have hpok := pictureOf_ok hq
  have pic_pix := fun k => hpok.pix k
  have one_pix := fun (k : Nat) x y => oneTo_pix hq g k (hpx x y)
  refine SYieldsG.mk (s_enterM Tryz.func106 rfl Tryz.ntmps106 rfl hH hn ?_)
  repeat' (first | exact rfl | (apply kO; (first | exact ov_pure rfl | (apply kOBin; (first | exact aBin | exact (ov_andBit rfl rfl (by omega)) | exact (ov_add rfl rfl (by have := hm k.1; have := hdv' k.1 (by omega); omega)) | exact (ov_add rfl rfl (by have := hhb k.1; omega)) | exact (ov_mul rfl rfl (by have := mul_bd (a := q.Y + (k.1 : Int) / (pictureOf q).W) (b := pw) (A := 16) (B := 16) (by omega) (by omega); omega)) | exact (ov_add rfl rfl (by have := mul_bd (a := q.Y + (k.1 : Int) / (pictureOf q).W) (b := pw) (A := 16) (B := 16) (by omega) (by omega); omega)))) | (apply kOCall; (first | (apply kCallF; (first | exact (ov_call rfl (fun w hw => c_within _ _ _ w)) | exact (ov_call rfl (fun w hw => c_iover _ _ w (pic_pix _) (mapTo_pixD (one_pix k.1) _ _ _))))) | (apply kCallB; (first | exact aBlt | exact aLenR)))) | (apply kOLoad; (first | exact (ov_ldG g rfl rfl gpA (by omega)) | exact (ov_ldR0 (fun w hw => (rrA hw)) rfl rfl (by rw [mapTo_length]; have := place_lt (w := pw) (h := ph) (x := q.X + (k.1 : Int) % (pictureOf q).W) (y := q.Y + (k.1 : Int) / (pictureOf q).W) (by omega) (by omega); omega) rfl) | exact aLdF | exact aLdR)) | exact ov_fieldAddr rfl | (apply kOIdx; (first | exact (ov_indexAddrA rfl rfl (by omega)) | exact (ov_idxR (fun w hw => (rrA hw)) rfl rfl (by rw [mapTo_length]; have := place_lt (w := pw) (h := ph) (x := q.X + (k.1 : Int) % (pictureOf q).W) (y := q.Y + (k.1 : Int) / (pictureOf q).W) (by omega) (by omega); omega)) | exact aIdx)) | exact aRest | exact (ov_bit rfl rfl (by omega)) | exact aNew | exact (ov_field1 (ft := 31) rfl rfl rfl rfl))) | (refine kN ?_; (first | (refine kCall ?_; (first | (refine kWFn 184 ?_; (refine s_callF (fun u H => OImg u (pictureOf q) H) rfl (fun w hw => c_surfacePicture q _ w hq (riA hw)) rfl (fun u H1 hu => ?_); obtain ⟨d', rfl, hu⟩ := hu; have f1 := hu.form; obtain ⟨_, _, rfl⟩ := f1)) | apply s_step)) | (refine kStore ?_; (first | (refine s_setI _ rfl rfl (by assumption) gpA (by rw [mapTo_length]; have := place_lt (w := pw) (h := ph) (x := q.X + (k.1 : Int) % (pictureOf q).W) (y := q.Y + (k.1 : Int) / (pictureOf q).W) (by omega) (by omega); omega) (fun H' hst => ?_)) | refine s_store1 _ rfl rfl gpA rfl (by rfl) ?_ | refine s_storeS _ rfl rfl gpA rfl rfl (by rfl) ?_ | refine s_storeS _ rfl rfl gpA rfl (ones_img oiA) (by rfl) ?_)) | refine s_boxS rfl rfl (fun b hb => ?_) | refine s_allocS rfl (fun b hb => ?_) | refine s_box1 rfl rfl rfl (fun b hb => ?_) | refine s_alloc1 rfl rfl (fun b hb => ?_) | refine s_buildSlice0 rfl (fun b hb => ?_) | refine s_buildSlice rfl rfl rfl rfl rfl (fun b hb => ?_) | apply s_step)) | (refine kG ?_; (first | refine s_gyes rfl rfl rfl ?_ | refine s_gno rfl rfl rfl rfl rfl ?_ | ((first | refine s_split_d rfl rfl (fun h => ?_) (fun h => ?_) | refine s_split_n rfl rfl (fun h => ?_) (fun h => ?_)) <;> (try (first | contradiction | (exfalso; omega)))) | refine s_split_nb rfl rfl (fun h => ?_) (fun h => ?_) | refine s_split rfl rfl (fun h => ?_) (fun h => ?_))) | (refine kS ?_; (first | refine h_exec rfl ?_ | refine h_take_nil rfl rfl rfl ?_ | refine h_take_pick rfl rfl rfl ?_ | refine h_nil ?_ | refine h_alt ?_ ?_ | apply h_take)) | refine h_back_last rfl ?_ | refine h_back subA ?_ | refine l_then ?_ | (refine kC ?_; (first | (refine c_regionS (SPlan.take 0 (SPlan.take 1 (SPlan.take 2 (SPlan.take 3 (SPlan.take 4 (SPlan.take 5 (SPlan.take 6 (SPlan.take 7 (SPlan.take 8 (SPlan.take 9 (SPlan.take 10 (SPlan.take 11 (SPlan.take 12 (SPlan.take 13 (SPlan.take 14 (SPlan.take 15 (SPlan.take 16 (SPlan.take 17 (SPlan.take 18 (SPlan.run 19 (SPlan.take 20 (SPlan.run 21 SPlan.done)))))))))))))))))))))) (some 21) rfl (by decide +kernel) ?_) | (refine c_regionS (SPlan.take 0 (SPlan.take 1 (SPlan.take 2 (SPlan.take 3 (SPlan.take 4 (SPlan.take 5 (SPlan.take 6 (SPlan.take 7 (SPlan.take 8 (SPlan.take 9 (SPlan.take 10 (SPlan.take 11 (SPlan.take 12 (SPlan.take 13 (SPlan.take 14 (SPlan.take 15 (SPlan.take 16 (SPlan.take 17 (SPlan.take 18 (SPlan.run 19 (SPlan.take 20 (SPlan.run 21 SPlan.done)))))))))))))))))))))) none rfl (by decide +kernel) ?_) | (refine c_loopV (ι := Nat × SPiece) (fun k => k.1 ≤ ((surfSize q).1 * (surfSize q).2).toNat ∧ OInts 3 v (mapTo (oneTo q g old k.1) pw (pw * ph).toNat) k.2) (fun k => [(8, .int .i64 (hitN q g pw ph k.1)), (18, .int .i64 (k.1 : Int))]) (fun k => [_, _, _, _, _, k.2]) (fun k => ((surfSize q).1 * (surfSize q).2).toNat - k.1) (0, _) ⟨by dsimp only; omega, by rw [show oneTo q g old 0 = old by funext x y; exact oneTo_zero hq g old x y]; exact hv⟩ rfl (fun _ => rfl) ⟨rfl, rfl, trivial⟩ (fun w hw => hw) (fun k hk => ?_); obtain ⟨hk1, hk2⟩ := hk) | refine c_seq ?_ | refine c_region ?_ | refine c_ret ?_ | (refine kCond ?_; (first | refine c_cond_t rfl ?_ | refine c_cond_f rfl ?_ | ((first | refine c_cond_d rfl (fun h => ?_) (fun h => ?_) | refine c_cond_n rfl (fun h => ?_) (fun h => ?_)) <;> (try (first | contradiction | (exfalso; omega)))) | refine c_cond_nb rfl (fun h => ?_) (fun h => ?_) | refine c_cond rfl (fun h => ?_) (fun h => ?_))) | refine c_block ?_ | refine c_skip ?_ | refine c_exit ?_ | refine c_regionQ rfl (by decide +kernel) ?_)) | apply s_stepQ | (refine kQG ?_; (first | refine s_gyesQ rfl rfl rfl ?_ | refine s_gnoQ rfl rfl rfl rfl rfl ?_ | ((first | refine s_splitQ_d rfl rfl (fun h => ?_) (fun h => ?_) | refine s_splitQ_n rfl rfl (fun h => ?_) (fun h => ?_)) <;> (try (first | contradiction | (exfalso; omega)))) | refine s_splitQ_nb rfl rfl (fun h => ?_) (fun h => ?_) | refine s_splitQ rfl rfl (fun h => ?_) (fun h => ?_))) | refine lQ_then ?_ | refine lQ_ends ?_ | (refine kE ?_; (first | refine e_then_r ?_ | refine e_block_r ?_ | refine e_then_n ?_ | refine e_then_x ?_ | refine e_block_n ?_ | refine e_block_x ?_ | refine e_block_y rfl ?_)) | refine l_ends ?_)
  · rename_i h1 h2 h3
    have hkN : k.1 < ((surfSize q).1 * (surfSize q).2).toNat := by omega
    have ekx : q.X + (k.1 : Int) % (pictureOf q).W = kx q k.1 := by unfold kx; rw [hps.1]
    have eky : q.Y + (k.1 : Int) / (pictureOf q).W = ky q k.1 := by unfold ky; rw [hps.1]
    rw [ekx] at h2
    rw [eky] at h3
    rw [ekx, eky] at h hst
    have hmi := one_hit hq (g := g) (old := old) (w := pw) (h := ph) hkN h2 h3 (bit_ne.1 h)
    rw [Int.toNat_natCast, hmi.1] at hst
    exact e_round (k.1 + 1, H') ⟨by dsimp only; omega, hst⟩ ⟨slook_to rfl (vint_to hmi.2), slook_to rfl (vint_to (by push_cast; rfl)), (by repeat' first | exact trivial | refine ⟨rfl, ?_⟩)⟩ (fun w hw => hw) (by dsimp only; omega)
  · rename_i h1 h2 h3
    have hkN : k.1 < ((surfSize q).1 * (surfSize q).2).toNat := by omega
    have ekx : q.X + (k.1 : Int) % (pictureOf q).W = kx q k.1 := by unfold kx; rw [hps.1]
    have eky : q.Y + (k.1 : Int) / (pictureOf q).W = ky q k.1 := by unfold ky; rw [hps.1]
    rw [ekx, eky] at h
    have hmi := one_miss hq (g := g) (old := old) (w := pw) (h := ph) hpw.1 hkN (fun hh => h (bit_ne.2 hh.2))
    rw [← hmi.1] at hk2
    exact e_round (k.1 + 1, k.2) ⟨by dsimp only; omega, hk2⟩ ⟨slook_to rfl (vint_to hmi.2.symm), slook_to rfl (vint_to (by push_cast; rfl)), (by repeat' first | exact trivial | refine ⟨rfl, ?_⟩)⟩ (fun w hw => hw) (by dsimp only; omega)
  · rename_i h1 h2
    have hkN : k.1 < ((surfSize q).1 * (surfSize q).2).toNat := by omega
    have ekx : q.X + (k.1 : Int) % (pictureOf q).W = kx q k.1 := by unfold kx; rw [hps.1]
    have eky : q.Y + (k.1 : Int) / (pictureOf q).W = ky q k.1 := by unfold ky; rw [hps.1]
    rw [eky] at h
    have hmi := one_miss hq (g := g) (old := old) (w := pw) (h := ph) hpw.1 hkN (fun hh => h hh.1.2)
    rw [← hmi.1] at hk2
    exact e_round (k.1 + 1, k.2) ⟨by dsimp only; omega, hk2⟩ ⟨slook_to rfl (vint_to hmi.2.symm), slook_to rfl (vint_to (by push_cast; rfl)), (by repeat' first | exact trivial | refine ⟨rfl, ?_⟩)⟩ (fun w hw => hw) (by dsimp only; omega)
  · rename_i h1
    have hkN : k.1 < ((surfSize q).1 * (surfSize q).2).toNat := by omega
    have ekx : q.X + (k.1 : Int) % (pictureOf q).W = kx q k.1 := by unfold kx; rw [hps.1]
    have eky : q.Y + (k.1 : Int) / (pictureOf q).W = ky q k.1 := by unfold ky; rw [hps.1]
    rw [ekx] at h
    have hmi := one_miss hq (g := g) (old := old) (w := pw) (h := ph) hpw.1 hkN (fun hh => h hh.1.1)
    rw [← hmi.1] at hk2
    exact e_round (k.1 + 1, k.2) ⟨by dsimp only; omega, hk2⟩ ⟨slook_to rfl (vint_to hmi.2.symm), slook_to rfl (vint_to (by push_cast; rfl)), (by repeat' first | exact trivial | refine ⟨rfl, ?_⟩)⟩ (fun w hw => hw) (by dsimp only; omega)
  · have hkN : k.1 = ((surfSize q).1 * (surfSize q).2).toNat := by omega
    rw [hkN] at hk2
    exact s_leave1 rfl (slook_to rfl (vint_to (by rw [hkN]))) (fun w hw => ⟨_, k.2, [], rfl, ⟨rfl, hk2, rfl⟩, (hw.sub (L' := [_]) (selO_sub [false, false, false, false, false, true] _ _ rfl)).lone⟩)
end Go.Proofs.YtfmjeakcfmmkfaaGreat
