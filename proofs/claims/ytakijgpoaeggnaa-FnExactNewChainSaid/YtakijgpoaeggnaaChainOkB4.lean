/-
  Texts that the law stands on, part 4: L3, L8, L9, L10, L11, KG, L12, L13, L14, H3, H4, E3, KW, EC, E4, E2, M20, M17, E5.
-/
import Derived.Test.YtakijgpoaeggnaaSx
import Derived.Lib.Overlaps
import Derived.Test.YtakijgpoaeggnaaChainOkB3
/-
  Contracts: a scene painted by the program.
-/
set_option linter.unusedVariables false
namespace Go.Proofs.Ytakijgpoaeggnaa
open Go Sx
attribute [local irreducible] Exit.then Exit.inBlock bodyPost oriented scaled pictureOf rawPicture
/-- the first j rows of a rectangle -/
def rowsG (r : DRect) (j : Nat) : Grid := fun y x => r.holds y x && decide ((y : Int) < r.Y + j)
theorem rowsG_zero (r : DRect) : (rowsG r 0).eqv Grid.none := fun y x hy hx => by
  unfold rowsG DRect.holds Grid.none
  rw [← Bool.decide_and]; exact decide_eq_false (fun hh => by have h1 := hh.1.2; have h2 := hh.2; omega)
theorem rowsG_next {r : DRect} (h : r.ok) (h0 : 0 ≤ r.X ∧ 0 ≤ r.Y) {j : Nat} (hj : (j : Int) < r.H) : (Grid.row (rowsG r j) (r.Y + j).toNat (fun i => decide (r.X.toNat ≤ i ∧ i < r.X.toNat + r.W.toNat))).eqv (rowsG r (j + 1)) := fun y x hy hx => by
  have h' := h
  unfold DRect.ok at h'
  unfold Grid.row rowsG DRect.holds
  by_cases e : y = (r.Y + j).toNat
  · subst e
    rw [if_pos rfl, ← Bool.decide_and]
    exact decide_eq_decide.2 ⟨fun hh => ⟨⟨h, by omega⟩, by push_cast; omega⟩, fun hh => by have h1 := hh.1.2; omega⟩
  · rw [if_neg e, ← Bool.decide_and, ← Bool.decide_and]
    exact decide_eq_decide.2 ⟨fun hh => ⟨hh.1, by push_cast; omega⟩, fun hh => ⟨hh.1, by have h1 := hh.2; have h2 := hh.1.2; push_cast at h1; omega⟩⟩
theorem rowsG_all {r : DRect} {j : Nat} (hj : r.H ≤ (j : Int)) : (rowsG r j).eqv (rectG r) := fun y x hy hx => by
  unfold rowsG rectG DRect.holds
  rw [← Bool.decide_and]
  exact decide_eq_decide.2 ⟨fun hh => hh.1, fun hh => ⟨hh, by have := hh.2; omega⟩⟩
theorem inter_screen_in (r : DRect) : 0 ≤ (r.inter DRect.screen).X ∧ 0 ≤ (r.inter DRect.screen).Y ∧ 0 ≤ (r.inter DRect.screen).W ∧ 0 ≤ (r.inter DRect.screen).H ∧ (r.inter DRect.screen).X + (r.inter DRect.screen).W ≤ 16 ∧ (r.inter DRect.screen).Y + (r.inter DRect.screen).H ≤ 16 := by
  by_cases h : r.ok
  · unfold DRect.inter
    rw [if_pos ⟨h, screen_ok⟩]
    unfold DRect.ok at h
    split
    · unfold DRect.zero; dsimp only; omega
    · rename_i hh; unfold DRect.screen at hh ⊢; dsimp only at hh ⊢; omega
  · rw [inter_not (.inl h)]; unfold DRect.zero; dsimp only; omega
theorem span_val {X W : Int} (h1 : 0 ≤ X) (h2 : 0 ≤ W) (h3 : X + W ≤ 16) : (((2 ^ W.toNat : Nat) : Int) - 1) * 2 ^ X.toNat = (Sx.bits (fun i => decide (X.toNat ≤ i ∧ i < X.toNat + W.toNat)) 16 : Nat) := by
  rw [← bits_span (X := X.toNat) (W := W.toNat) (n := 16) (by omega)]
  have : 1 ≤ 2 ^ W.toNat := Nat.pow_pos (by omega)
  push_cast [this]
  rfl
section
variable {P : Program} {n : Nat} {lo : SMut} {s : World} {E : SEnv} {L : SHeap} {d : Option Tmp} {ty : TypeId} {pos : String} {after : Array Edge} {g0 : Option (Nat × Bool)} {x y : Operand} {xt yt : TypeId}
theorem ov_span {kj : IntKind} {X W : Int} (hx : sval E x = some (.int .i64 (((2 ^ W.toNat : Nat) : Int) - 1))) (hy : sval E y = some (.int kj X)) (h1 : 0 ≤ X) (h2 : 0 ≤ W) (h3 : X + W ≤ 16) :
    SOpV P n lo s E L ⟨d, .binOp .shl xt x y yt, ty, pos, after, g0⟩ (.int .i64 (Sx.bits (fun i => decide (X.toNat ≤ i ∧ i < X.toNat + W.toNat)) 16 : Nat)) := by
  have hb := bits16 (fun i => decide (X.toNat ≤ i ∧ i < X.toNat + W.toNat))
  rw [← span_val h1 h2 h3] at hb ⊢
  exact ov_shl hx hy (by omega) (by omega)
end
theorem pow_bd {j : Int} (h : 0 ≤ j ∧ j ≤ 16) : 1 ≤ ((2 ^ j.toNat : Nat) : Int) ∧ ((2 ^ j.toNat : Nat) : Int) ≤ 65536 := by
  have h1 : 2 ^ j.toNat ≤ 2 ^ 16 := Nat.pow_le_pow_right (by omega) (by omega)
  have h2 : 0 < 2 ^ j.toNat := Nat.pow_pos (by omega)
  have hm : ∀ m : Nat, 0 < m → m ≤ 2 ^ 16 → 1 ≤ (m : Int) ∧ (m : Int) ≤ 65536 := fun m a b => by omega
  exact hm _ h2 h1
theorem c_gridOf (r0 : DRect) (w : World) : SYields Try.prog 79 #[vRect r0] (gval (rectG r0)) w := by
  rw [← gval_congr (inter_screen (r := r0))]
  have hin := inter_screen_in r0
  have hok : (r0.inter DRect.screen).ok := by unfold DRect.ok; omega
  (first | apply SYields.mk | apply SYieldsF.mk | skip); refine s_enter Try.func79 rfl Try.ntmps79 rfl ?_
  repeat' (first | exact rfl | (apply kO; (first | exact ov_pure rfl | (apply kOBin; (first | exact aBin | exact (ov_sub rfl rfl (by have := pow_bd (j := (r0.inter DRect.screen).W) (by omega); omega)))) | (apply kOCall; (first | (apply kCallF; (first | exact (ov_call rfl (fun w hw => c_iintersect r0 DRect.screen w)))) | (apply kCallB; (first | exact aBlt | exact aLenR)))) | (apply kOLoad; (first | exact aLdF | exact aLdR)) | exact ov_fieldAddr rfl | (apply kOIdx; (first | exact (ov_indexAddrA rfl rfl (by omega)) | exact aIdx)) | exact aRest | exact (ov_bit rfl rfl (by omega)) | exact (ov_span rfl rfl (by omega) (by omega) (by omega)) | exact (ov_buildA0) | exact aNew | exact (ov_field1 (ft := 37) rfl rfl rfl rfl))) | (refine kN ?_; (first | (refine kStore ?_; (first | (refine s_setR _ rfl rfl gpA rfl (by simp [gl]; omega) ?_) | refine s_store1 _ rfl rfl gpA rfl (by rfl) ?_ | refine s_storeS _ rfl rfl gpA rfl rfl (by rfl) ?_ | refine s_storeS _ rfl rfl gpA rfl (ones_img oiA) (by rfl) ?_)) | refine s_boxS rfl rfl (fun b hb => ?_) | refine s_allocS rfl (fun b hb => ?_) | refine s_box1 rfl rfl rfl (fun b hb => ?_) | refine s_alloc1 rfl rfl (fun b hb => ?_) | refine s_buildSlice0 rfl (fun b hb => ?_) | refine s_buildSlice rfl rfl rfl rfl rfl (fun b hb => ?_) | apply s_step)) | (refine kG ?_; (first | refine s_gyes rfl rfl rfl ?_ | refine s_gno rfl rfl rfl rfl rfl ?_ | ((first | refine s_split_d rfl rfl (fun h => ?_) (fun h => ?_) | refine s_split_n rfl rfl (fun h => ?_) (fun h => ?_)) <;> (try (first | contradiction | (exfalso; omega)))) | refine s_split_nb rfl rfl (fun h => ?_) (fun h => ?_) | refine s_split rfl rfl (fun h => ?_) (fun h => ?_))) | (refine kS ?_; (first | refine h_exec rfl ?_ | refine h_take_nil rfl rfl rfl ?_ | refine h_take_pick rfl rfl rfl ?_ | refine h_nil ?_ | refine h_alt ?_ ?_ | apply h_take)) | (refine kBack ?_; (first | refine h_back_last rfl ?_ | refine h_backN rfl subA ?_)) | refine l_then ?_ | (refine kC ?_; (first | (refine kReg 6 ?_; refine c_regionSN (SPlan.take 0 (SPlan.take 1 (SPlan.take 2 (SPlan.take 3 (SPlan.take 4 (SPlan.take 5 (SPlan.take 6 (SPlan.take 7 (SPlan.take 8 (SPlan.run 9 SPlan.done)))))))))) (some 9) rfl rfl (by decide +kernel) ?_) | (refine kReg 6 ?_; refine c_regionSN (SPlan.take 0 (SPlan.take 1 (SPlan.take 2 (SPlan.take 3 (SPlan.take 4 (SPlan.take 5 (SPlan.take 6 (SPlan.take 7 (SPlan.take 8 (SPlan.run 9 SPlan.done)))))))))) none rfl rfl (by decide +kernel) ?_) | (refine c_loopV (ι := Nat) (fun j => (j : Int) ≤ (r0.inter DRect.screen).H) (fun j => [(4, .int .i64 ((r0.inter DRect.screen).Y + j))]) (fun j => [[(_, srow (gl (rowsG (r0.inter DRect.screen) j)) _)], _, _]) (fun j => (r0.inter DRect.screen).H.toNat - j) 0 (by omega) rfl (fun _ => rfl) ⟨slook_to rfl (vint_to (by simp)), trivial⟩ (fun w hw => by rw [gl_congr (rowsG_zero _)]; exact hw) (fun j hj => ?_)) | refine c_seq ?_ | refine c_regionN rfl ?_ | refine c_ret ?_ | (refine kCond ?_; (first | refine c_cond_t rfl ?_ | refine c_cond_f rfl ?_ | ((first | refine c_cond_d rfl (fun h => ?_) (fun h => ?_) | refine c_cond_n rfl (fun h => ?_) (fun h => ?_)) <;> (try (first | contradiction | (exfalso; omega)))) | refine c_cond_nb rfl (fun h => ?_) (fun h => ?_) | refine c_cond rfl (fun h => ?_) (fun h => ?_))) | refine c_block ?_ | refine c_skip ?_ | refine c_exit ?_ | refine c_regionQN rfl rfl (by decide +kernel) ?_)) | apply s_stepQ | (refine kQG ?_; (first | refine s_gyesQ rfl rfl rfl ?_ | refine s_gnoQ rfl rfl rfl rfl rfl ?_ | ((first | refine s_splitQ_d rfl rfl (fun h => ?_) (fun h => ?_) | refine s_splitQ_n rfl rfl (fun h => ?_) (fun h => ?_)) <;> (try (first | contradiction | (exfalso; omega)))) | refine s_splitQ_nb rfl rfl (fun h => ?_) (fun h => ?_) | refine s_splitQ rfl rfl (fun h => ?_) (fun h => ?_))) | refine lQ_then ?_ | refine lQ_ends ?_ | (refine kE ?_; (first | refine e_then_r ?_ | refine e_block_r ?_ | refine e_then_n ?_ | refine e_then_x ?_ | refine e_block_n ?_ | refine e_block_x ?_ | refine e_block_y rfl ?_)) | refine l_ends ?_)
  · refine e_round (j + 1) (by push_cast; omega) ⟨slook_to rfl (vint_to (by push_cast; omega)), (by repeat' first | exact trivial | refine ⟨rfl, ?_⟩)⟩ (fun w hw => ?_) (by omega)
    have e : (gl (rowsG (r0.inter DRect.screen) j)).set (0 + ((r0.inter DRect.screen).Y + j).toNat * 1) (.int .i64 (Sx.bits (fun i => decide ((r0.inter DRect.screen).X.toNat ≤ i ∧ i < (r0.inter DRect.screen).X.toNat + (r0.inter DRect.screen).W.toNat)) 16 : Nat)) = gl (rowsG (r0.inter DRect.screen) (j + 1)) := by
      rw [Nat.zero_add, Nat.mul_one, gl_set _ (by omega), gl_congr (rowsG_next hok ⟨by omega, by omega⟩ (by omega))]
    rw [← e]; exact hw
  · refine s_leaveSF rfl rfl rfl fwA (fun w hw => ⟨?_, hw.below⟩)
    show Ending.returned (gval (rowsG (r0.inter DRect.screen) j)) = _
    rw [gval_congr (rowsG_all (by omega))]
end Go.Proofs.Ytakijgpoaeggnaa
/-
  Contracts: the program's grids joined; regions as grids; the canonical form.
-/
set_option linter.unusedVariables false
namespace Go.Proofs.Ytakijgpoaeggnaa
open Go Sx
attribute [local irreducible] Exit.then Exit.inBlock bodyPost
/-- the first j rows are joined -/
def mixG (op : Bool → Bool → Bool) (g h : Grid) (j : Nat) : Grid := fun y x => if y < j then op (g y x) (h y x) else g y x
theorem mixG_zero (op : Bool → Bool → Bool) (g h : Grid) : (mixG op g h 0).eqv g := fun y x _ _ => by unfold mixG; rw [if_neg (by omega)]
theorem mixG_next (op : Bool → Bool → Bool) (g h : Grid) {j : Nat} : (Grid.row (mixG op g h j) j (fun i => op (mixG op g h j j i) (h j i))).eqv (mixG op g h (j + 1)) := fun y x _ _ => by
  unfold Grid.row mixG
  by_cases e : y = j
  · subst e; rw [if_pos rfl, if_neg (by omega), if_pos (by omega)]
  · rw [if_neg e]
    by_cases e2 : y < j
    · rw [if_pos e2, if_pos (by omega)]
    · rw [if_neg e2, if_neg (by omega)]
theorem mixG_all (op : Bool → Bool → Bool) (g h : Grid) {j : Nat} (hj : 16 ≤ j) : (mixG op g h j).eqv (fun y x => op (g y x) (h y x)) := fun y x hy _ => by unfold mixG; rw [if_pos (by omega)]
section
variable {P : Program} {n : Nat} {lo : SMut} {s : World} {E : SEnv} {L : SHeap} {d : Option Tmp} {ty : TypeId} {pos : String} {after : Array Edge} {g0 : Option (Nat × Bool)} {x y : Operand} {xt yt : TypeId}
end
theorem c_gor (g f : Grid) (w : World) : SYields Try.prog 78 #[gval g, gval f] (gval (g.or f)) w := by
  (first | apply SYields.mk | apply SYieldsF.mk | skip); refine s_enter Try.func78 rfl Try.ntmps78 rfl ?_
  repeat' (first | exact rfl | (apply kO; (first | exact ov_pure rfl | (apply kOBin; (first | exact aBin | exact (ov_orG rfl rfl))) | (apply kOCall; (first | (apply kCallB; (first | exact aBlt | exact aLenR)))) | (apply kOLoad; (first | exact (ov_ldG (mixG (fun p q => p || q) g f j) rfl rfl gpA (by omega)) | exact (ov_ldG f rfl rfl gpA (by omega)) | exact aLdF | exact aLdR)) | exact ov_fieldAddr rfl | (apply kOIdx; (first | exact (ov_indexAddrA rfl rfl (by omega)) | exact aIdx)) | exact aRest | exact aNew | exact (ov_field1 (ft := 37) rfl rfl rfl rfl))) | (refine kN ?_; (first | (refine kStore ?_; (first | (refine s_setR _ rfl rfl gpA rfl (by simp [gl]; omega) ?_) | refine s_store1 _ rfl rfl gpA rfl (by rfl) ?_ | refine s_storeS _ rfl rfl gpA rfl rfl (by rfl) ?_ | refine s_storeS _ rfl rfl gpA rfl (ones_img oiA) (by rfl) ?_)) | refine s_boxS rfl rfl (fun b hb => ?_) | refine s_allocS rfl (fun b hb => ?_) | refine s_box1 rfl rfl rfl (fun b hb => ?_) | refine s_alloc1 rfl rfl (fun b hb => ?_) | refine s_buildSlice0 rfl (fun b hb => ?_) | refine s_buildSlice rfl rfl rfl rfl rfl (fun b hb => ?_) | apply s_step)) | (refine kG ?_; (first | refine s_gyes rfl rfl rfl ?_ | refine s_gno rfl rfl rfl rfl rfl ?_ | ((first | refine s_split_d rfl rfl (fun h => ?_) (fun h => ?_) | refine s_split_n rfl rfl (fun h => ?_) (fun h => ?_)) <;> (try (first | contradiction | (exfalso; omega)))) | refine s_split_nb rfl rfl (fun h => ?_) (fun h => ?_) | refine s_split rfl rfl (fun h => ?_) (fun h => ?_))) | (refine kS ?_; (first | refine h_exec rfl ?_ | refine h_take_nil rfl rfl rfl ?_ | refine h_take_pick rfl rfl rfl ?_ | refine h_nil ?_ | refine h_alt ?_ ?_ | apply h_take)) | (refine kBack ?_; (first | refine h_back_last rfl ?_ | refine h_backN rfl subA ?_)) | refine l_then ?_ | (refine kC ?_; (first | (refine kReg 4 ?_; refine c_regionSN (SPlan.take 0 (SPlan.take 1 (SPlan.take 2 (SPlan.take 3 (SPlan.take 4 (SPlan.take 5 (SPlan.take 6 (SPlan.take 7 (SPlan.run 8 SPlan.done))))))))) (some 8) rfl rfl (by decide +kernel) ?_) | (refine kReg 4 ?_; refine c_regionSN (SPlan.take 0 (SPlan.take 1 (SPlan.take 2 (SPlan.take 3 (SPlan.take 4 (SPlan.take 5 (SPlan.take 6 (SPlan.take 7 (SPlan.run 8 SPlan.done))))))))) none rfl rfl (by decide +kernel) ?_) | (refine c_loopV (ι := Nat) (fun j => j ≤ 16) (fun j => [(6, .int .i64 (j : Int))]) (fun j => [_, _, [(_, srow (gl (mixG (fun p q => p || q) g f j)) _)]]) (fun j => 16 - j) 0 (by omega) rfl (fun _ => rfl) ⟨rfl, trivial⟩ (fun w hw => by rw [gl_congr (mixG_zero _ g f)]; exact hw) (fun j hj => ?_)) | refine c_seq ?_ | refine c_regionN rfl ?_ | refine c_ret ?_ | (refine kCond ?_; (first | refine c_cond_t rfl ?_ | refine c_cond_f rfl ?_ | ((first | refine c_cond_d rfl (fun h => ?_) (fun h => ?_) | refine c_cond_n rfl (fun h => ?_) (fun h => ?_)) <;> (try (first | contradiction | (exfalso; omega)))) | refine c_cond_nb rfl (fun h => ?_) (fun h => ?_) | refine c_cond rfl (fun h => ?_) (fun h => ?_))) | refine c_block ?_ | refine c_skip ?_ | refine c_exit ?_ | refine c_regionQN rfl rfl (by decide +kernel) ?_)) | apply s_stepQ | (refine kQG ?_; (first | refine s_gyesQ rfl rfl rfl ?_ | refine s_gnoQ rfl rfl rfl rfl rfl ?_ | ((first | refine s_splitQ_d rfl rfl (fun h => ?_) (fun h => ?_) | refine s_splitQ_n rfl rfl (fun h => ?_) (fun h => ?_)) <;> (try (first | contradiction | (exfalso; omega)))) | refine s_splitQ_nb rfl rfl (fun h => ?_) (fun h => ?_) | refine s_splitQ rfl rfl (fun h => ?_) (fun h => ?_))) | refine lQ_then ?_ | refine lQ_ends ?_ | (refine kE ?_; (first | refine e_then_r ?_ | refine e_block_r ?_ | refine e_then_n ?_ | refine e_then_x ?_ | refine e_block_n ?_ | refine e_block_x ?_ | refine e_block_y rfl ?_)) | refine l_ends ?_)
  · refine e_round (j + 1) (by omega) ⟨slook_to rfl (vint_to (by push_cast; rfl)), (by repeat' first | exact trivial | refine ⟨rfl, ?_⟩)⟩ (fun w hw => ?_) (by omega)
    have e : (gl (mixG (fun p q => p || q) g f j)).set (0 + (j : Int).toNat * 1) (.int .i64 (Sx.bits (fun i => (fun p q => p || q) (mixG (fun p q => p || q) g f j j i) (f j i)) 16 : Nat)) = gl (mixG (fun p q => p || q) g f (j + 1)) := by
      rw [Nat.zero_add, Nat.mul_one, Int.toNat_natCast, gl_set _ (by omega), gl_congr (mixG_next (fun p q => p || q) g f)]
    rw [← e]; exact hw
  · refine s_leaveSF rfl rfl rfl fwA (fun w hw => ⟨?_, hw.below⟩)
    show Ending.returned (gval (mixG (fun p q => p || q) g f j)) = _
    rw [gval_congr (mixG_all (fun p q => p || q) g f (by omega))]; rfl
end Go.Proofs.Ytakijgpoaeggnaa
/-
  Contract: the canonical form of a grid, by the program.
-/
set_option linter.unusedVariables false
namespace Go.Proofs.Ytakijgpoaeggnaa
open Go Sx
attribute [local irreducible] Exit.then Exit.inBlock bodyPost Sx.bits canonR rowR
theorem OVs.one {α : Type} {c : α → List Value} {k : Nat} {T : TypeId} {v : Value} {l : List α} {H : SPiece} (h : OVs c k T v l H) : v.oneCell' = true := by
  obtain ⟨a, q, rfl⟩ := h.form; rfl
theorem bits_same {g : Grid} {y z : Nat} : ((Sx.bits (g z) 16 : Nat) : Int) = (Sx.bits (g y) 16 : Nat) ↔ sameRow g y z = true := by
  rw [sameRow_iff]
  constructor
  · intro h; exact bits_inj.1 (by omega)
  · intro h; rw [bits_inj.2 h]
theorem hgt_of {g : Grid} {y e : Nat} (h1 : y + 1 ≤ e) (h2 : ∀ z, y < z → z < e → z < 16 ∧ sameRow g y z = true) (h3 : ¬ (e < 16 ∧ sameRow g y e = true)) : hgt g y = e - y := by
  have := rnl_eq (f := sameRow g y) (x := y + 1) (w := e - (y + 1)) (fun i a b => h2 i (by omega) (by omega)) (by rw [show y + 1 + (e - (y + 1)) = e by omega]; exact h3)
  unfold hgt; omega
theorem rnl_of {f : Nat → Bool} {x z : Nat} (h1 : x ≤ z) (h2 : ∀ i, x ≤ i → i < z → i < 16 ∧ f i = true) (h3 : ¬ (z < 16 ∧ f z = true)) : rnl f x = z - x :=
  rnl_eq (fun i a b => h2 i a (by omega)) (by rw [show x + (z - x) = z by omega]; exact h3)
theorem rowR_app {f : Nat → Bool} {y h : Int} {x z : Nat} (hx : x < 16) (h1 : x < z) (h2 : ∀ i, x ≤ i → i < z → i < 16 ∧ f i = true) (h3 : ¬ (z < 16 ∧ f z = true)) : rowR f y h x = [⟨x, y, (z : Int) - x, h⟩] ++ rowR f y h (z + 1) := by
  have e := rnl_of (Nat.le_of_lt h1) h2 h3
  rw [rowR_step hx, e, if_neg (by omega), show x + (z - x) + 1 = z + 1 by omega, show (((z - x : Nat)) : Int) = (z : Int) - x by omega]
theorem rowR_skip {f : Nat → Bool} {y h : Int} {x : Nat} (hx : x < 16) (h3 : ¬ (x < 16 ∧ f x = true)) : rowR f y h x = rowR f y h (x + 1) := by
  have e := rnl_of (Nat.le_refl x) (fun i a c => by omega) h3
  rw [rowR_step hx, e, if_pos (by omega), show x + (x - x) + 1 = x + 1 by omega]; rfl
set_option maxHeartbeats 4000000 in
theorem c_gregion (g : Grid) (W : World) : SYieldsF Try.prog 77 #[gval g] (fun u H => OReg u (canon g) H) W := by
  (first | apply SYields.mk | apply SYieldsF.mk | skip); refine s_enter Try.func77 rfl Try.ntmps77 rfl ?_
  repeat' (first | exact rfl | (apply kO; (first | exact ov_pure rfl | (apply kOBin; (first | exact aBin | exact (ov_andBit rfl rfl (by omega)))) | (apply kOCall; (first | (apply kCallB; (first | exact aBlt | exact aLenR)))) | (apply kOLoad; (first | exact (ov_ldG g rfl rfl gpA (by omega)) | exact aLdF | exact aLdR)) | exact ov_fieldAddr rfl | (apply kOIdx; (first | exact (ov_indexAddrA rfl rfl (by omega)) | exact aIdx)) | exact aRest | exact (ov_bit rfl rfl (by omega)) | exact aNew | exact (ov_field1 (ft := 37) rfl rfl rfl rfl))) | (refine kN ?_; (first | (refine kCall ?_; (first | (refine kWApp ?_; (refine s_appendVs _ _ (c := cRect) (kk := 4) (a := ⟨x.1, y.1, (z : Int) - x.1, (e : Int) - y.1⟩) rfl rfl (by assumption) gpA gpA rfl rfl (by rw [scells_eq]; rfl) (by decide) (by omega) (by decide) rfl (fun v' H' hv' => ?_); have f1 := hv'.form; obtain ⟨ua, uc, rfl⟩ := f1)) | apply s_step)) | (refine kStore ?_; (first | (refine s_storeS _ rfl rfl gpA rfl (ones_cons (OVs.one (by assumption)) rfl) (by rfl) ?_) | refine s_store1 _ rfl rfl gpA rfl (by rfl) ?_ | refine s_storeS _ rfl rfl gpA rfl rfl (by rfl) ?_ | refine s_storeS _ rfl rfl gpA rfl (ones_img oiA) (by rfl) ?_)) | refine s_boxS rfl rfl (fun b hb => ?_) | refine s_allocS rfl (fun b hb => ?_) | refine s_box1 rfl rfl rfl (fun b hb => ?_) | refine s_alloc1 rfl rfl (fun b hb => ?_) | refine s_buildSlice0 rfl (fun b hb => ?_) | refine s_buildSlice rfl rfl rfl rfl rfl (fun b hb => ?_) | apply s_step)) | (refine kG ?_; (first | refine s_gyes rfl rfl rfl ?_ | refine s_gno rfl rfl rfl rfl rfl ?_ | ((first | refine s_split_d rfl rfl (fun h => ?_) (fun h => ?_) | refine s_split_n rfl rfl (fun h => ?_) (fun h => ?_)) <;> (try (first | contradiction | (exfalso; omega)))) | refine s_split_nb rfl rfl (fun h => ?_) (fun h => ?_) | refine s_split rfl rfl (fun h => ?_) (fun h => ?_))) | refine l_then ?_ | (refine kC ?_; (first | (refine c_loopV (ι := Nat × List DRect × Value × SPiece) (fun y => y.1 ≤ 16 ∧ ORects y.2.2.1 y.2.1 y.2.2.2 ∧ y.2.1 ++ canonR g y.1 = canon g ∧ y.2.1.length ≤ 8 * y.1) (fun y => [(4, .int .i64 (y.1 : Int))]) (fun y => [[(_, srow [y.2.2.1] 34)], y.2.2.2, _, _]) (fun y => 16 - y.1) (0, [], _, []) ⟨by dsimp only; omega, OVs.nil, (show [] ++ canonR g 0 = canonR g 0 from List.nil_append _), by dsimp only; simp⟩ rfl (fun _ => rfl) ⟨rfl, trivial⟩ (fun w hw => hw.nil1) (fun y hy => ?_); obtain ⟨hy1, hy2, hy3, hy4⟩ := hy) | (refine c_loopV (ι := Nat) (fun e => (y.1 + 1 ≤ e ∧ e ≤ 16) ∧ ∀ z, y.1 < z → z < e → z < 16 ∧ sameRow g y.1 z = true) (fun e => [(5, .int .i64 (e : Int))]) (fun e => [_, _, _, _]) (fun e => 16 - e) (y.1 + 1) ⟨by omega, fun z a b => by omega⟩ rfl (fun _ => rfl) ⟨slook_to rfl (vint_to (by push_cast; rfl)), trivial⟩ (fun w hw => hw) (fun e he => ?_); obtain ⟨he1, he2⟩ := he) | (refine c_loopV (ι := Nat × List DRect × Value × SPiece) (fun x => x.1 ≤ 17 ∧ ORects x.2.2.1 x.2.1 x.2.2.2 ∧ x.2.1 ++ (rowR (g y.1) y.1 ((e : Int) - y.1) x.1 ++ canonR g e) = canon g ∧ x.2.1.length ≤ 8 * y.1 + x.1 / 2) (fun x => [(6, .int .i64 (x.1 : Int))]) (fun x => [[(_, srow [x.2.2.1] 34)], x.2.2.2, _, _]) (fun x => 17 - x.1) (0, y.2.1, y.2.2.1, y.2.2.2) ⟨by dsimp only; omega, hy2, by dsimp only; rw [← hy3, canonR_step (g := g) (y := y.1) (by omega), hgt_of he1.1 he2 (fun hh => by first | omega | (exact absurd (bits_same.2 hh.2) (by assumption))), show y.1 + (e - y.1) = e by omega, show (((e - y.1 : Nat)) : Int) = (e : Int) - y.1 by omega], by dsimp only; omega⟩ rfl (fun _ => rfl) ⟨rfl, trivial⟩ (fun w hw => hw) (fun x hx => ?_); obtain ⟨hx1, hx2, hx3, hx4⟩ := hx) | (refine c_loopV (ι := Nat) (fun z => (x.1 ≤ z ∧ z ≤ 16) ∧ ∀ i, x.1 ≤ i → i < z → i < 16 ∧ g y.1 i = true) (fun z => [(6, .int .i64 (z : Int))]) (fun z => [_, _, _, _]) (fun z => 16 - z) x.1 ⟨by omega, fun i a b => by omega⟩ rfl (fun _ => rfl) ⟨rfl, trivial⟩ (fun w hw => hw) (fun z hz => ?_); obtain ⟨hz1, hz2⟩ := hz) | refine c_seq ?_ | refine c_regionN rfl ?_ | refine c_ret ?_ | (refine kCond ?_; (first | refine c_cond_t rfl ?_ | refine c_cond_f rfl ?_ | ((first | refine c_cond_d rfl (fun h => ?_) (fun h => ?_) | refine c_cond_n rfl (fun h => ?_) (fun h => ?_)) <;> (try (first | contradiction | (exfalso; omega)))) | refine c_cond_nb rfl (fun h => ?_) (fun h => ?_) | refine c_cond rfl (fun h => ?_) (fun h => ?_))) | refine c_block ?_ | refine c_skip ?_ | refine c_exit ?_ | refine c_regionQN rfl rfl (by decide +kernel) ?_)) | apply s_stepQ | (refine kQG ?_; (first | refine s_gyesQ rfl rfl rfl ?_ | refine s_gnoQ rfl rfl rfl rfl rfl ?_ | ((first | refine s_splitQ_d rfl rfl (fun h => ?_) (fun h => ?_) | refine s_splitQ_n rfl rfl (fun h => ?_) (fun h => ?_)) <;> (try (first | contradiction | (exfalso; omega)))) | refine s_splitQ_nb rfl rfl (fun h => ?_) (fun h => ?_) | refine s_splitQ rfl rfl (fun h => ?_) (fun h => ?_))) | refine lQ_then ?_ | refine lQ_ends ?_ | (refine kE ?_; (first | refine e_then_r ?_ | refine e_block_r ?_ | refine e_then_n ?_ | refine e_then_x ?_ | refine e_block_n ?_ | refine e_block_x ?_ | refine e_block_y rfl ?_)) | refine l_ends ?_)
  · refine e_round (e + 1) ⟨by omega, fun z a c => ?_⟩ ⟨slook_to rfl (vint_to (by push_cast; rfl)), (by repeat' first | exact trivial | refine ⟨rfl, ?_⟩)⟩ (fun w hw => hw) (by omega)
    by_cases e0 : z = e
    · subst e0; exact ⟨by omega, bits_same.1 h⟩
    · exact he2 z a (by omega)
  · refine e_round (z + 1) ⟨by omega, fun i a c => ?_⟩ ⟨slook_to rfl (vint_to (by push_cast; rfl)), (by repeat' first | exact trivial | refine ⟨rfl, ?_⟩)⟩ (fun w hw => hw) (by omega)
    by_cases e0 : i = z
    · subst e0; exact ⟨by omega, bit_ne.1 h⟩
    · exact hz2 i a (by omega)
  · have hxz : x.1 < z := by omega
    have hn : ¬ (z < 16 ∧ g y.1 z = true) := fun hh => by first | omega | exact absurd (bit_ne.2 hh.2) (by assumption)
    refine e_round (z + 1, _, _, H') ⟨by dsimp only; omega, hv', ?_, by dsimp only; rw [List.length_append, List.length_singleton]; omega⟩ ⟨slook_to rfl (vint_to (by push_cast; rfl)), (by repeat' first | exact trivial | refine ⟨rfl, ?_⟩)⟩ (fun w hw => hw.sub (selO_sub [false, true, true, true, true] _ _ rfl)) (by dsimp only; omega)
    dsimp only
    rw [← hx3, rowR_app (f := g y.1) (y := y.1) (h := (e : Int) - y.1) (by omega) hxz hz2 hn, List.append_assoc, List.append_assoc]
  · have hxz : z = x.1 := by omega
    have hn : ¬ (z < 16 ∧ g y.1 z = true) := fun hh => by first | omega | exact absurd (bit_ne.2 hh.2) (by assumption)
    subst hxz
    refine e_round (x.1 + 1, x.2.1, x.2.2.1, x.2.2.2) ⟨by dsimp only; omega, hx2, ?_, by dsimp only; omega⟩ ⟨slook_to rfl (vint_to (by push_cast; rfl)), (by repeat' first | exact trivial | refine ⟨rfl, ?_⟩)⟩ (fun w hw => hw) (by dsimp only; omega)
    dsimp only
    rw [← rowR_skip (f := g y.1) (y := y.1) (h := (e : Int) - y.1) (by omega) hn]; exact hx3
  · have hxz : x.1 < z := by omega
    have hn : ¬ (z < 16 ∧ g y.1 z = true) := fun hh => by first | omega | exact absurd (bit_ne.2 hh.2) (by assumption)
    refine e_round (z + 1, _, _, H') ⟨by dsimp only; omega, hv', ?_, by dsimp only; rw [List.length_append, List.length_singleton]; omega⟩ ⟨slook_to rfl (vint_to (by push_cast; rfl)), (by repeat' first | exact trivial | refine ⟨rfl, ?_⟩)⟩ (fun w hw => hw.sub (selO_sub [false, true, true, true, true] _ _ rfl)) (by dsimp only; omega)
    dsimp only
    rw [← hx3, rowR_app (f := g y.1) (y := y.1) (h := (e : Int) - y.1) (by omega) hxz hz2 hn, List.append_assoc, List.append_assoc]
  · rw [rowR_done (by omega), List.nil_append] at hx3
    exact e_round (e, x.2.1, x.2.2.1, x.2.2.2) ⟨by dsimp only; omega, hx2, hx3, by dsimp only; omega⟩ ⟨slook_to rfl (vint_to (by rfl)), (by repeat' first | exact trivial | refine ⟨rfl, ?_⟩)⟩ (fun w hw => hw) (by dsimp only; omega)
  · refine e_round (z + 1) ⟨by omega, fun i a c => ?_⟩ ⟨slook_to rfl (vint_to (by push_cast; rfl)), (by repeat' first | exact trivial | refine ⟨rfl, ?_⟩)⟩ (fun w hw => hw) (by omega)
    by_cases e0 : i = z
    · subst e0; exact ⟨by omega, bit_ne.1 h⟩
    · exact hz2 i a (by omega)
  · have hxz : x.1 < z := by omega
    have hn : ¬ (z < 16 ∧ g y.1 z = true) := fun hh => by first | omega | exact absurd (bit_ne.2 hh.2) (by assumption)
    refine e_round (z + 1, _, _, H') ⟨by dsimp only; omega, hv', ?_, by dsimp only; rw [List.length_append, List.length_singleton]; omega⟩ ⟨slook_to rfl (vint_to (by push_cast; rfl)), (by repeat' first | exact trivial | refine ⟨rfl, ?_⟩)⟩ (fun w hw => hw.sub (selO_sub [false, true, true, true, true] _ _ rfl)) (by dsimp only; omega)
    dsimp only
    rw [← hx3, rowR_app (f := g y.1) (y := y.1) (h := (e : Int) - y.1) (by omega) hxz hz2 hn, List.append_assoc, List.append_assoc]
  · have hxz : z = x.1 := by omega
    have hn : ¬ (z < 16 ∧ g y.1 z = true) := fun hh => by first | omega | exact absurd (bit_ne.2 hh.2) (by assumption)
    subst hxz
    refine e_round (x.1 + 1, x.2.1, x.2.2.1, x.2.2.2) ⟨by dsimp only; omega, hx2, ?_, by dsimp only; omega⟩ ⟨slook_to rfl (vint_to (by push_cast; rfl)), (by repeat' first | exact trivial | refine ⟨rfl, ?_⟩)⟩ (fun w hw => hw) (by dsimp only; omega)
    dsimp only
    rw [← rowR_skip (f := g y.1) (y := y.1) (h := (e : Int) - y.1) (by omega) hn]; exact hx3
  · have hxz : x.1 < z := by omega
    have hn : ¬ (z < 16 ∧ g y.1 z = true) := fun hh => by first | omega | exact absurd (bit_ne.2 hh.2) (by assumption)
    refine e_round (z + 1, _, _, H') ⟨by dsimp only; omega, hv', ?_, by dsimp only; rw [List.length_append, List.length_singleton]; omega⟩ ⟨slook_to rfl (vint_to (by push_cast; rfl)), (by repeat' first | exact trivial | refine ⟨rfl, ?_⟩)⟩ (fun w hw => hw.sub (selO_sub [false, true, true, true, true] _ _ rfl)) (by dsimp only; omega)
    dsimp only
    rw [← hx3, rowR_app (f := g y.1) (y := y.1) (h := (e : Int) - y.1) (by omega) hxz hz2 hn, List.append_assoc, List.append_assoc]
  · rw [rowR_done (by omega), List.nil_append] at hx3
    exact e_round (e, x.2.1, x.2.2.1, x.2.2.2) ⟨by dsimp only; omega, hx2, hx3, by dsimp only; omega⟩ ⟨slook_to rfl (vint_to (by rfl)), (by repeat' first | exact trivial | refine ⟨rfl, ?_⟩)⟩ (fun w hw => hw) (by dsimp only; omega)
  · have e0 : y.1 = 16 := by omega
    rw [e0, canonR_done (by omega), List.append_nil] at hy3
    rw [hy3] at hy2
    exact s_leaveSF rfl rfl rfl fwA (fun w hw => ⟨_, _, rfl, ⟨_, rfl, hy2⟩, hw.toFresh (H := y.2.2.2) gpA⟩)
end Go.Proofs.Ytakijgpoaeggnaa
/-
  Contracts: the reference's grids.
-/
set_option linter.unusedVariables false
namespace Go.Proofs.Ytakijgpoaeggnaa
open Go Sx
attribute [local irreducible] Exit.then Exit.inBlock bodyPost
theorem putG_put (g : Grid) (y x : Nat) : Grid.put g y x true = putG g y x := rfl
theorem boxG_put {r : DRect} {old : Grid} {j i : Nat} (h0 : 0 ≤ r.X ∧ 0 ≤ r.Y) (hx : r.X + r.W ≤ 16) (hy : r.Y + r.H ≤ 16) (hi : (i : Int) < r.W) (hj : (j : Int) < r.H) :
    (gvals (boxG r old j i)).set ((r.Y + (j : Int)) * 16 + (r.X + (i : Int))).toNat true = gvals (boxG r old j (i + 1)) := by
  rw [show ((r.Y + (j : Int)) * 16 + (r.X + (i : Int))).toNat = (r.Y + j).toNat * 16 + (r.X + i).toNat by omega, gvals_set _ (by omega) (by omega), putG_put, gvals_congr (boxG_next h0 hi)]
set_option maxHeartbeats 2000000 in
set_option maxRecDepth 1000000 in
theorem c_l03Grid (v : Value) (l : List DRect) (W : World) (hv : RRects W v l) : SYieldsF Try.prog 191 #[v] (fun u H => OBools u (gvals (points l)) H) W := by
  have hv' := hv.form
  obtain ⟨_, _, rfl⟩ := hv'
  have hll := hv.len
  have hin := fun k => inter_screen_in (l.getD k DRect.zero)
  have hgl := fun g => gvals_length g
  have hzero : (List.replicate 256 false) = gvals (points (l.take 0)) := by
    exact (List.eq_replicate_iff.2 ⟨by simp [gvals], fun c hc => by obtain ⟨q, _, rfl⟩ := List.mem_map.1 hc; rfl⟩).symm
  (first | apply SYields.mk | apply SYieldsF.mk | skip); refine s_enter Try.func191 rfl Try.ntmps191 rfl ?_
  repeat' (first | exact rfl | (apply kO; (first | exact ov_pure rfl | (apply kOBin; (first | exact aBin | exact (ov_add rfl rfl (by have := hin k.1; omega)) | exact (ov_mul rfl rfl (by have := hin k.1; omega)))) | (apply kOCall; (first | (apply kCallF; (first | exact (ov_call rfl (fun w hw => c_sintersect (l.getD k.1 DRect.zero) DRect.screen w)))) | (apply kCallB; (first | exact aBlt | exact aLenR)))) | (apply kOLoad; (first | exact (ov_ldR (fun w hw => RRow.keep hv (hw.cells rfl)) rfl rfl (by omega) rfl) | exact aLdF | exact aLdR)) | exact ov_fieldAddr rfl | (apply kOIdx; (first | exact (ov_idxR (fun w hw => OBools.rd (by assumption) (hfA hw)) rfl rfl (by rw [hgl]; have := hin k.1; omega)) | exact aIdx)) | exact aRest | exact aNew | exact (ov_field1 (ft := 37) rfl rfl rfl rfl))) | (refine kN ?_; (first | (refine kStore ?_; (first | (refine s_setB _ rfl rfl (by assumption) gpA (by rw [hgl]; have := hin k.1; omega) (fun H' hu => ?_)) | refine s_store1 _ rfl rfl gpA rfl (by rfl) ?_ | refine s_storeS _ rfl rfl gpA rfl rfl (by rfl) ?_ | refine s_storeS _ rfl rfl gpA rfl (ones_img oiA) (by rfl) ?_)) | refine s_boxS rfl rfl (fun b hb => ?_) | refine s_allocS rfl (fun b hb => ?_) | refine s_box1 rfl rfl rfl (fun b hb => ?_) | refine s_alloc1 rfl rfl (fun b hb => ?_) | (refine kWMake ?_; (refine s_make1 rfl rfl rfl ⟨by omega, by omega, by omega⟩ (by omega) rfl (fun b hb => ?_))) | refine s_buildSlice0 rfl (fun b hb => ?_) | refine s_buildSlice rfl rfl rfl rfl rfl (fun b hb => ?_) | apply s_step)) | (refine kG ?_; (first | refine s_gyes rfl rfl rfl ?_ | refine s_gno rfl rfl rfl rfl rfl ?_ | ((first | refine s_split_d rfl rfl (fun h => ?_) (fun h => ?_) | refine s_split_n rfl rfl (fun h => ?_) (fun h => ?_)) <;> (try (first | contradiction | (exfalso; omega)))) | refine s_split_nb rfl rfl (fun h => ?_) (fun h => ?_) | refine s_split rfl rfl (fun h => ?_) (fun h => ?_))) | (refine kS ?_; (first | refine h_exec rfl ?_ | refine h_take_nil rfl rfl rfl ?_ | refine h_take_pick rfl rfl rfl ?_ | refine h_nil ?_ | refine h_alt ?_ ?_ | apply h_take)) | (refine kBack ?_; (first | refine h_back_last rfl ?_ | refine h_backN rfl subA ?_)) | refine l_then ?_ | (refine kC ?_; (first | (refine kReg 6 ?_; refine c_regionSN (SPlan.take 0 (SPlan.take 1 (SPlan.take 2 (SPlan.take 3 (SPlan.take 4 ((SPlan.run 5 (SPlan.run 6 (SPlan.run 7 SPlan.done))).alt (SPlan.run 6 (SPlan.run 5 (SPlan.run 7 SPlan.done))))))))) (some 7) rfl rfl (by decide +kernel) ?_) | (refine kReg 6 ?_; refine c_regionSN (SPlan.take 0 (SPlan.take 1 (SPlan.take 2 (SPlan.take 3 (SPlan.take 4 ((SPlan.run 5 (SPlan.run 6 (SPlan.run 7 SPlan.done))).alt (SPlan.run 6 (SPlan.run 5 (SPlan.run 7 SPlan.done))))))))) none rfl rfl (by decide +kernel) ?_) | (refine c_loopV (ι := Nat × SPiece) (fun k => k.1 ≤ l.length ∧ OBools _ (gvals (points (l.take k.1))) k.2) (fun k => [(5, .int .i64 (k.1 : Int))]) (fun k => [_, k.2]) (fun k => l.length - k.1) (0, _) ⟨by dsimp only; omega, by dsimp only; rw [← hzero]; exact OBools.full _ false (by unfold maxLen; omega)⟩ rfl (fun _ => rfl) ⟨rfl, trivial⟩ (fun w hw => hw) (fun k hk => ?_); obtain ⟨hk1, hk2⟩ := hk) | (refine c_loopV (ι := Nat × SPiece) (fun j => (j.1 : Int) ≤ ((l.getD k.1 DRect.zero).inter DRect.screen).H ∧ OBools _ (gvals (boxG ((l.getD k.1 DRect.zero).inter DRect.screen) (points (l.take k.1)) j.1 0)) j.2) (fun j => [(7, .int .i64 (((l.getD k.1 DRect.zero).inter DRect.screen).Y + (j.1 : Int)))]) (fun j => [_, _, j.2]) (fun j => ((l.getD k.1 DRect.zero).inter DRect.screen).H.toNat - j.1) (0, _) ⟨by have := hin k.1; dsimp only; omega, by rw [gvals_congr (boxG_zero _ _)]; exact hk2⟩ rfl (fun _ => rfl) ⟨slook_to rfl (vint_to (by simp)), trivial⟩ (fun w hw => hw) (fun j hj => ?_); obtain ⟨hj1, hj2⟩ := hj) | (refine c_loopV (ι := Nat × SPiece) (fun i => (i.1 : Int) ≤ ((l.getD k.1 DRect.zero).inter DRect.screen).W ∧ OBools _ (gvals (boxG ((l.getD k.1 DRect.zero).inter DRect.screen) (points (l.take k.1)) j.1 i.1)) i.2) (fun i => [(8, .int .i64 (((l.getD k.1 DRect.zero).inter DRect.screen).X + (i.1 : Int)))]) (fun i => [_, _, i.2]) (fun i => ((l.getD k.1 DRect.zero).inter DRect.screen).W.toNat - i.1) (0, _) ⟨by have := hin k.1; dsimp only; omega, hj2⟩ rfl (fun _ => rfl) ⟨slook_to rfl (vint_to (by simp)), trivial⟩ (fun w hw => hw) (fun i hi => ?_); obtain ⟨hi1, hi2⟩ := hi) | refine c_seq ?_ | refine c_regionN rfl ?_ | refine c_ret ?_ | (refine kCond ?_; (first | refine c_cond_t rfl ?_ | refine c_cond_f rfl ?_ | ((first | refine c_cond_d rfl (fun h => ?_) (fun h => ?_) | refine c_cond_n rfl (fun h => ?_) (fun h => ?_)) <;> (try (first | contradiction | (exfalso; omega)))) | refine c_cond_nb rfl (fun h => ?_) (fun h => ?_) | refine c_cond rfl (fun h => ?_) (fun h => ?_))) | refine c_block ?_ | refine c_skip ?_ | refine c_exit ?_ | refine c_regionQN rfl rfl (by decide +kernel) ?_)) | apply s_stepQ | (refine kQG ?_; (first | refine s_gyesQ rfl rfl rfl ?_ | refine s_gnoQ rfl rfl rfl rfl rfl ?_ | ((first | refine s_splitQ_d rfl rfl (fun h => ?_) (fun h => ?_) | refine s_splitQ_n rfl rfl (fun h => ?_) (fun h => ?_)) <;> (try (first | contradiction | (exfalso; omega)))) | refine s_splitQ_nb rfl rfl (fun h => ?_) (fun h => ?_) | refine s_splitQ rfl rfl (fun h => ?_) (fun h => ?_))) | refine lQ_then ?_ | refine lQ_ends ?_ | (refine kE ?_; (first | refine e_then_r ?_ | refine e_block_r ?_ | refine e_then_n ?_ | refine e_then_x ?_ | refine e_block_n ?_ | refine e_block_x ?_ | refine e_block_y rfl ?_)) | refine l_ends ?_)
  · have hk0 := hin k.1
    rw [boxG_put ⟨by omega, by omega⟩ (by omega) (by omega) (by omega) (by omega)] at hu
    exact e_round (i.1 + 1, H') ⟨by dsimp only; omega, hu⟩ ⟨slook_to rfl (vint_to (by push_cast; omega)), (by repeat' first | exact trivial | refine ⟨rfl, ?_⟩)⟩ (fun w hw => hw) (by dsimp only; omega)
  · have hk0 := hin k.1
    rw [gvals_congr (boxG_row (by omega))] at hi2
    exact e_round (j.1 + 1, i.2) ⟨by dsimp only; omega, hi2⟩ ⟨slook_to rfl (vint_to (by push_cast; omega)), (by repeat' first | exact trivial | refine ⟨rfl, ?_⟩)⟩ (fun w hw => hw) (by dsimp only; omega)
  · have hk0 := hin k.1
    have hok : ((l.getD k.1 DRect.zero).inter DRect.screen).ok := by unfold DRect.ok; omega
    rw [gvals_congr ((boxG_all hok (by omega)).trans (points_take_screen (by omega)))] at hj2
    exact e_round (k.1 + 1, j.2) ⟨by dsimp only; omega, hj2⟩ ⟨slook_to rfl (vint_to (by push_cast; rfl)), (by repeat' first | exact trivial | refine ⟨rfl, ?_⟩)⟩ (fun w hw => hw.sub (selO_sub [false, true, true] _ _ rfl)) (by dsimp only; omega)
  · have hk0 := hin k.1
    rw [boxG_put ⟨by omega, by omega⟩ (by omega) (by omega) (by omega) (by omega)] at hu
    exact e_round (i.1 + 1, H') ⟨by dsimp only; omega, hu⟩ ⟨slook_to rfl (vint_to (by push_cast; omega)), (by repeat' first | exact trivial | refine ⟨rfl, ?_⟩)⟩ (fun w hw => hw) (by dsimp only; omega)
  · have hk0 := hin k.1
    rw [gvals_congr (boxG_row (by omega))] at hi2
    exact e_round (j.1 + 1, i.2) ⟨by dsimp only; omega, hi2⟩ ⟨slook_to rfl (vint_to (by push_cast; omega)), (by repeat' first | exact trivial | refine ⟨rfl, ?_⟩)⟩ (fun w hw => hw) (by dsimp only; omega)
  · have hk0 := hin k.1
    have hok : ((l.getD k.1 DRect.zero).inter DRect.screen).ok := by unfold DRect.ok; omega
    rw [gvals_congr ((boxG_all hok (by omega)).trans (points_take_screen (by omega)))] at hj2
    exact e_round (k.1 + 1, j.2) ⟨by dsimp only; omega, hj2⟩ ⟨slook_to rfl (vint_to (by push_cast; rfl)), (by repeat' first | exact trivial | refine ⟨rfl, ?_⟩)⟩ (fun w hw => hw.sub (selO_sub [false, true, true] _ _ rfl)) (by dsimp only; omega)
  · have e : k.1 = l.length := by omega
    rw [e, List.take_length] at hk2
    exact s_leave1 rfl rfl (fun w hw => ⟨_, _, rfl, hk2, hw.toFresh (H := k.2) gpA⟩)
end Go.Proofs.Ytakijgpoaeggnaa
/-
  Contract: the canonical form of a grid, by the reference.
-/
set_option linter.unusedVariables false
namespace Go.Proofs.Ytakijgpoaeggnaa
open Go Sx
attribute [local irreducible] Exit.then Exit.inBlock bodyPost
theorem sameRow_true {g : Grid} {y z : Nat} (h : ∀ i, i < 16 → g z i = g y i) : sameRow g y z = true := sameRow_iff.2 h
theorem sameRow_false {g : Grid} {y z i : Nat} (hi : i < 16) (h : g z i ≠ g y i) : sameRow g y z = false := by
  cases e : sameRow g y z
  · rfl
  · exact absurd (sameRow_iff.1 e i hi) h
theorem gv_at (g : Grid) {y : Nat} {x : Nat} (hy : y < 16) (hx : x < 16) : (gvals g).getD ((y : Int) * 16 + (x : Int)).toNat false = g y x := by
  rw [show ((y : Int) * 16 + (x : Int)).toNat = y * 16 + x by omega]; exact gvals_at g hy hx
set_option maxRecDepth 1000000 in
theorem c_l03Row (v : Value) (g : Grid) (y z : Nat) (W : World) (hy : y < 16) (hz : z < 16) (hv : RBools W v (gvals g)) : SYields Try.prog 218 #[v, .int .i64 (y : Int), .int .i64 (z : Int)] (.bool (sameRow g y z)) W := by
  have hgl := gvals_length g
  have hv' := hv.form
  obtain ⟨_, _, rfl⟩ := hv'
  (first | apply SYields.mk | apply SYieldsF.mk | skip); refine s_enter Try.func218 rfl Try.ntmps218 rfl ?_
  repeat' (first | exact rfl | (apply kO; (first | exact ov_pure rfl | (apply kOBin; (first | exact aBin)) | (apply kOCall; (first | (apply kCallB; (first | exact aBlt | exact aLenR)))) | (apply kOLoad; (first | exact (ov_ldR0 (fun w hw => RRow.keep hv (hw.cells rfl)) rfl rfl (by rw [hgl]; omega) rfl) | exact aLdF | exact aLdR)) | exact ov_fieldAddr rfl | (apply kOIdx; (first | exact (ov_idxR (fun w hw => RRow.keep hv (hw.cells rfl)) rfl rfl (by rw [hgl]; omega)) | exact aIdx)) | exact aRest | exact aNew | exact (ov_field1 (ft := 37) rfl rfl rfl rfl))) | (refine kN ?_; (first | (refine kStore ?_; (first | refine s_store1 _ rfl rfl gpA rfl (by rfl) ?_ | refine s_storeS _ rfl rfl gpA rfl rfl (by rfl) ?_ | refine s_storeS _ rfl rfl gpA rfl (ones_img oiA) (by rfl) ?_)) | refine s_boxS rfl rfl (fun b hb => ?_) | refine s_allocS rfl (fun b hb => ?_) | refine s_box1 rfl rfl rfl (fun b hb => ?_) | refine s_alloc1 rfl rfl (fun b hb => ?_) | refine s_buildSlice0 rfl (fun b hb => ?_) | refine s_buildSlice rfl rfl rfl rfl rfl (fun b hb => ?_) | apply s_step)) | (refine kG ?_; (first | refine s_gyes rfl rfl rfl ?_ | refine s_gno rfl rfl rfl rfl rfl ?_ | ((first | refine s_split_d rfl rfl (fun h => ?_) (fun h => ?_) | refine s_split_n rfl rfl (fun h => ?_) (fun h => ?_)) <;> (try (first | contradiction | (exfalso; omega)))) | refine s_split_nb rfl rfl (fun h => ?_) (fun h => ?_) | refine s_split rfl rfl (fun h => ?_) (fun h => ?_))) | refine l_then ?_ | (refine kC ?_; (first | (refine c_loopV (ι := Nat) (fun x => x ≤ 16 ∧ ∀ i, i < x → g z i = g y i) (fun x => [(7, .int .i64 (x : Int))]) (fun _ => []) (fun x => 16 - x) 0 ⟨by omega, fun i hi => by omega⟩ rfl (fun _ => rfl) ⟨rfl, trivial⟩ (fun w hw => hw) (fun x hx => ?_)) | refine c_seq ?_ | refine c_regionN rfl ?_ | refine c_ret ?_ | (refine kCond ?_; (first | refine c_cond_t rfl ?_ | refine c_cond_f rfl ?_ | ((first | refine c_cond_d rfl (fun h => ?_) (fun h => ?_) | refine c_cond_n rfl (fun h => ?_) (fun h => ?_)) <;> (try (first | contradiction | (exfalso; omega)))) | refine c_cond_nb rfl (fun h => ?_) (fun h => ?_) | refine c_cond rfl (fun h => ?_) (fun h => ?_))) | refine c_block ?_ | refine c_skip ?_ | refine c_exit ?_ | refine c_regionQN rfl rfl (by decide +kernel) ?_)) | apply s_stepQ | (refine kQG ?_; (first | refine s_gyesQ rfl rfl rfl ?_ | refine s_gnoQ rfl rfl rfl rfl rfl ?_ | ((first | refine s_splitQ_d rfl rfl (fun h => ?_) (fun h => ?_) | refine s_splitQ_n rfl rfl (fun h => ?_) (fun h => ?_)) <;> (try (first | contradiction | (exfalso; omega)))) | refine s_splitQ_nb rfl rfl (fun h => ?_) (fun h => ?_) | refine s_splitQ rfl rfl (fun h => ?_) (fun h => ?_))) | refine lQ_then ?_ | refine lQ_ends ?_ | (refine kE ?_; (first | refine e_then_r ?_ | refine e_block_r ?_ | refine e_then_n ?_ | refine e_then_x ?_ | refine e_block_n ?_ | refine e_block_x ?_ | refine e_block_y rfl ?_)) | refine l_ends ?_)
  · rw [gv_at g hy (by omega), gv_at g hz (by omega)] at h
    exact s_leave1 rfl rfl (fun w hw => ⟨by rw [sameRow_false (g := g) (y := y) (z := z) (i := x) (by omega) (fun e => h e.symm)], hw.below⟩)
  · rw [gv_at g hy (by omega), gv_at g hz (by omega)] at h
    refine e_round (x + 1) ⟨by omega, fun i hi => ?_⟩ ⟨slook_to rfl (vint_to (by push_cast; rfl)), (by repeat' first | exact trivial | refine ⟨rfl, ?_⟩)⟩ (fun w hw => hw) (by omega)
    by_cases e : i = x
    · subst e; exact h.symm
    · exact hx.2 i (by omega)
  · exact s_leave1 rfl rfl (fun w hw => ⟨by rw [sameRow_true (g := g) (y := y) (z := z) (fun i hi => hx.2 i (by omega))], hw.below⟩)
end Go.Proofs.Ytakijgpoaeggnaa
/-
  Which loop is it: the number of the region that it begins with.
-/
set_option linter.unusedVariables false
namespace Go.Proofs.Ytakijgpoaeggnaa
open Go Sx
section
variable {P : Program} {n : Nat} {lo : SMut} {s : World} {Q : Exit → Act → World → Prop} {E : SEnv} {L : SHeap}
theorem kLoop (id : Nat) {ops : Array Oper} {dr : Bool} {y z : Code} (h : WPC P n lo s (.loop (.seq (.seq (.region id ops dr) z) y)) Q E L) : WPC P n lo s (.loop (.seq (.seq (.region id ops dr) z) y)) Q E L := h
theorem kLoopR (id : Nat) {ops : Array Oper} {dr : Bool} {z : Code} (h : WPC P n lo s (.loop (.seq (.region id ops dr) z)) Q E L) : WPC P n lo s (.loop (.seq (.region id ops dr) z)) Q E L := h
end
end Go.Proofs.Ytakijgpoaeggnaa
/-
  Contract: the canonical form of a grid, by the reference.
-/
set_option linter.unusedVariables false
namespace Go.Proofs.Ytakijgpoaeggnaa
open Go Sx
attribute [local irreducible] Exit.then Exit.inBlock bodyPost Sx.bits canonR rowR gvals sameRow OVs
theorem gv_at3 (g : Grid) {y x z : Nat} (hy : y < 16) (hx : x + z < 16) : (gvals g).getD ((y : Int) * 16 + (x : Int) + (z : Int)).toNat false = g y (x + z) := by
  rw [show ((y : Int) * 16 + (x : Int) + (z : Int)).toNat = y * 16 + (x + z) by omega]; exact gvals_at g hy hx
set_option maxRecDepth 1000000 in
set_option maxHeartbeats 4000000 in
theorem c_l03Canon (v : Value) (g : Grid) (W : World) (hv : RBools W v (gvals g)) : SYieldsF Try.prog 190 #[v] (fun u H => OReg u (canon g) H) W := by
  have hgl := gvals_length g
  have hv' := hv.form
  obtain ⟨_, _, rfl⟩ := hv'
  (first | apply SYields.mk | apply SYieldsF.mk | skip); refine s_enter Try.func190 rfl Try.ntmps190 rfl ?_
  repeat' (first | exact rfl | (apply kO; (first | exact ov_pure rfl | (apply kOBin; (first | exact aBin)) | (apply kOCall; (first | (apply kCallF; (first | exact (ov_call rfl (fun w hw => c_l03Row _ g y.1 (y.1 + e) w (by omega) (by omega) (RRow.keep hv (hw.cells rfl)))))) | (apply kCallB; (first | exact aBlt | exact aLenR)))) | (apply kOLoad; (first | exact (ov_ldR0 (fun w hw => RRow.keep hv (hw.cells rfl)) rfl rfl (by rw [hgl]; omega) rfl) | exact aLdF | exact aLdR)) | exact ov_fieldAddr rfl | (apply kOIdx; (first | exact (ov_idxR (fun w hw => RRow.keep hv (hw.cells rfl)) rfl rfl (by rw [hgl]; omega)) | exact aIdx)) | exact aRest | exact aNew | exact (ov_field1 (ft := 37) rfl rfl rfl rfl))) | (refine kN ?_; (first | (refine kCall ?_; (first | (refine kWApp ?_; (refine s_appendVs _ _ (c := cRect) (kk := 4) (a := ⟨x.1, y.1, (z : Int), (e : Int)⟩) rfl rfl (by assumption) gpA gpA rfl rfl (by rw [scells_eq]; rfl) (by decide) (by omega) (by decide) rfl (fun v' H' hv' => ?_); have f1 := hv'.form; obtain ⟨ua, uc, rfl⟩ := f1)) | apply s_step)) | (refine kStore ?_; (first | (refine s_storeS _ rfl rfl gpA rfl (ones_cons (OVs.one (by assumption)) rfl) (by rfl) ?_) | refine s_store1 _ rfl rfl gpA rfl (by rfl) ?_ | refine s_storeS _ rfl rfl gpA rfl rfl (by rfl) ?_ | refine s_storeS _ rfl rfl gpA rfl (ones_img oiA) (by rfl) ?_)) | refine s_boxS rfl rfl (fun b hb => ?_) | refine s_allocS rfl (fun b hb => ?_) | refine s_box1 rfl rfl rfl (fun b hb => ?_) | refine s_alloc1 rfl rfl (fun b hb => ?_) | refine s_buildSlice0 rfl (fun b hb => ?_) | refine s_buildSlice rfl rfl rfl rfl rfl (fun b hb => ?_) | apply s_step)) | (refine kG ?_; (first | refine s_gyes rfl rfl rfl ?_ | refine s_gno rfl rfl rfl rfl rfl ?_ | ((first | refine s_split_d rfl rfl (fun h => ?_) (fun h => ?_) | refine s_split_n rfl rfl (fun h => ?_) (fun h => ?_)) <;> (try (first | (exfalso; omega)))) | refine s_split_nb rfl rfl (fun h => ?_) (fun h => ?_) | refine s_split rfl rfl (fun h => ?_) (fun h => ?_))) | refine l_then ?_ | (refine kC ?_; (first | (refine kLoop 3 ?_; refine c_loopV (ι := Nat × List DRect × Value × SPiece) (fun y => y.1 ≤ 16 ∧ ORects y.2.2.1 y.2.1 y.2.2.2 ∧ y.2.1 ++ canonR g y.1 = canon g ∧ y.2.1.length ≤ 8 * y.1) (fun y => [(4, .int .i64 (y.1 : Int))]) (fun y => [[(_, srow [y.2.2.1] 34)], y.2.2.2, _]) (fun y => 16 - y.1) (0, [], _, []) ⟨by dsimp only; omega, OVs.nil, (show [] ++ canonR g 0 = canonR g 0 from List.nil_append _), by dsimp only; simp⟩ rfl (fun _ => rfl) ⟨rfl, trivial⟩ (fun w hw => hw.nil1) (fun y hy => ?_); obtain ⟨hy1, hy2, hy3, hy4⟩ := hy) | (refine kLoop 5 ?_; refine c_loopV (ι := Nat) (fun e => (1 ≤ e ∧ y.1 + e ≤ 16) ∧ ∀ z, y.1 < z → z < y.1 + e → z < 16 ∧ sameRow g y.1 z = true) (fun e => [(5, .int .i64 (e : Int))]) (fun e => [_, _, _]) (fun e => 16 - e) 1 ⟨by omega, fun z a c => by omega⟩ rfl (fun _ => rfl) ⟨rfl, trivial⟩ (fun w hw => hw) (fun e he => ?_); obtain ⟨he1, he2⟩ := he) | (refine kLoop 8 ?_; refine c_loopV (ι := Nat × List DRect × Value × SPiece) (fun x => x.1 ≤ 17 ∧ ORects x.2.2.1 x.2.1 x.2.2.2 ∧ x.2.1 ++ (rowR (g y.1) y.1 (e : Int) x.1 ++ canonR g (y.1 + e)) = canon g ∧ x.2.1.length ≤ 8 * y.1 + x.1 / 2) (fun x => [(6, .int .i64 (x.1 : Int))]) (fun x => [[(_, srow [x.2.2.1] 34)], x.2.2.2, _]) (fun x => 17 - x.1) (0, y.2.1, y.2.2.1, y.2.2.2) ⟨by dsimp only; omega, hy2, by dsimp only; rw [← hy3, canonR_step (g := g) (y := y.1) (by omega), hgt_of (e := y.1 + e) (by omega) he2 (fun hh => by first | omega | exact absurd hh.2 (by assumption) | exact absurd hh.2 (Bool.eq_false_iff.1 (by assumption))), show y.1 + e - y.1 = e by omega], by dsimp only; omega⟩ rfl (fun _ => rfl) ⟨rfl, trivial⟩ (fun w hw => hw) (fun x hx => ?_); obtain ⟨hx1, hx2, hx3, hx4⟩ := hx) | (refine kLoop 10 ?_; refine c_loopV (ι := Nat) (fun z => x.1 + z ≤ 16 ∧ ∀ i, x.1 ≤ i → i < x.1 + z → i < 16 ∧ g y.1 i = true) (fun z => [(7, .int .i64 (z : Int))]) (fun z => [_, _, _]) (fun z => 16 - z) 0 ⟨by omega, fun i a c => by omega⟩ rfl (fun _ => rfl) ⟨rfl, trivial⟩ (fun w hw => hw) (fun z hz => ?_); obtain ⟨hz1, hz2⟩ := hz) | refine c_seq ?_ | refine c_regionN rfl ?_ | refine c_ret ?_ | (refine kCond ?_; (first | refine c_cond_t rfl ?_ | refine c_cond_f rfl ?_ | ((first | refine c_cond_d rfl (fun h => ?_) (fun h => ?_) | refine c_cond_n rfl (fun h => ?_) (fun h => ?_)) <;> (try (first | (exfalso; omega)))) | refine c_cond_nb rfl (fun h => ?_) (fun h => ?_) | refine c_cond rfl (fun h => ?_) (fun h => ?_))) | refine c_block ?_ | refine c_skip ?_ | refine c_exit ?_ | refine c_regionQN rfl rfl (by decide +kernel) ?_)) | apply s_stepQ | (refine kQG ?_; (first | refine s_gyesQ rfl rfl rfl ?_ | refine s_gnoQ rfl rfl rfl rfl rfl ?_ | ((first | refine s_splitQ_d rfl rfl (fun h => ?_) (fun h => ?_) | refine s_splitQ_n rfl rfl (fun h => ?_) (fun h => ?_)) <;> (try (first | (exfalso; omega)))) | refine s_splitQ_nb rfl rfl (fun h => ?_) (fun h => ?_) | refine s_splitQ rfl rfl (fun h => ?_) (fun h => ?_))) | refine lQ_then ?_ | refine lQ_ends ?_ | (refine kE ?_; (first | refine e_then_r ?_ | refine e_block_r ?_ | refine e_then_n ?_ | refine e_then_x ?_ | refine e_block_n ?_ | refine e_block_x ?_ | refine e_block_y rfl ?_)) | refine l_ends ?_)
  · refine e_round (e + 1) ⟨by omega, fun z a c => ?_⟩ ⟨slook_to rfl (vint_to (by push_cast; rfl)), (by repeat' first | exact trivial | refine ⟨rfl, ?_⟩)⟩ (fun w hw => hw) (by omega)
    by_cases e0 : z = y.1 + e
    · subst e0; exact ⟨by omega, by assumption⟩
    · exact he2 z a (by omega)
  · refine e_round (z + 1) ⟨by omega, fun i a c => ?_⟩ ⟨slook_to rfl (vint_to (by push_cast; rfl)), (by repeat' first | exact trivial | refine ⟨rfl, ?_⟩)⟩ (fun w hw => hw) (by omega)
    by_cases e0 : i = x.1 + z
    · subst e0; exact ⟨by omega, by rw [← gv_at3 g (y := y.1) (x := x.1) (z := z) (by omega) (by omega)]; assumption⟩
    · exact hz2 i a (by omega)
  · have hxz : 0 < z := by omega
    have hn : ¬ (x.1 + z < 16 ∧ g y.1 (x.1 + z) = true) := fun hh => by have hf : g y.1 (x.1 + z) = false := (by rw [← gv_at3 g (y := y.1) (x := x.1) (z := z) (by omega) (by omega)]; assumption); rw [hf] at hh; exact absurd hh.2 Bool.false_ne_true
    refine e_round (x.1 + z + 1, _, _, H') ⟨by dsimp only; omega, hv', ?_, by dsimp only; rw [List.length_append, List.length_singleton]; omega⟩ ⟨slook_to rfl (vint_to (by push_cast; rfl)), (by repeat' first | exact trivial | refine ⟨rfl, ?_⟩)⟩ (fun w hw => hw.sub (selO_sub [false, true, true, true] _ _ rfl)) (by dsimp only; omega)
    dsimp only
    rw [← hx3, rowR_app (f := g y.1) (y := y.1) (h := (e : Int)) (x := x.1) (z := x.1 + z) (by omega) (by omega) hz2 hn, show (((x.1 + z : Nat) : Int) - (x.1 : Int)) = (z : Int) by omega, List.append_assoc, List.append_assoc]
  · have hxz : z = 0 := by omega
    subst hxz
    have hn : ¬ (x.1 < 16 ∧ g y.1 x.1 = true) := fun hh => by have hf : g y.1 (x.1 + 0) = false := (by rw [← gv_at3 g (y := y.1) (x := x.1) (z := 0) (by omega) (by omega)]; assumption); rw [Nat.add_zero] at hf; rw [hf] at hh; exact absurd hh.2 Bool.false_ne_true
    refine e_round (x.1 + 1, x.2.1, x.2.2.1, x.2.2.2) ⟨by dsimp only; omega, hx2, ?_, by dsimp only; omega⟩ ⟨slook_to rfl (vint_to (by push_cast; omega)), (by repeat' first | exact trivial | refine ⟨rfl, ?_⟩)⟩ (fun w hw => hw) (by dsimp only; omega)
    dsimp only
    rw [← rowR_skip (f := g y.1) (y := y.1) (h := (e : Int)) (by omega) hn]; exact hx3
  · have hxz : 0 < z := by omega
    have hn : ¬ (x.1 + z < 16 ∧ g y.1 (x.1 + z) = true) := fun hh => by omega
    refine e_round (x.1 + z + 1, _, _, H') ⟨by dsimp only; omega, hv', ?_, by dsimp only; rw [List.length_append, List.length_singleton]; omega⟩ ⟨slook_to rfl (vint_to (by push_cast; rfl)), (by repeat' first | exact trivial | refine ⟨rfl, ?_⟩)⟩ (fun w hw => hw.sub (selO_sub [false, true, true, true] _ _ rfl)) (by dsimp only; omega)
    dsimp only
    rw [← hx3, rowR_app (f := g y.1) (y := y.1) (h := (e : Int)) (x := x.1) (z := x.1 + z) (by omega) (by omega) hz2 hn, show (((x.1 + z : Nat) : Int) - (x.1 : Int)) = (z : Int) by omega, List.append_assoc, List.append_assoc]
  · rw [rowR_done (by omega), List.nil_append] at hx3
    exact e_round (y.1 + e, x.2.1, x.2.2.1, x.2.2.2) ⟨by dsimp only; omega, hx2, hx3, by dsimp only; omega⟩ ⟨slook_to rfl (vint_to (by push_cast; rfl)), (by repeat' first | exact trivial | refine ⟨rfl, ?_⟩)⟩ (fun w hw => hw) (by dsimp only; omega)
  · refine e_round (z + 1) ⟨by omega, fun i a c => ?_⟩ ⟨slook_to rfl (vint_to (by push_cast; rfl)), (by repeat' first | exact trivial | refine ⟨rfl, ?_⟩)⟩ (fun w hw => hw) (by omega)
    by_cases e0 : i = x.1 + z
    · subst e0; exact ⟨by omega, by rw [← gv_at3 g (y := y.1) (x := x.1) (z := z) (by omega) (by omega)]; assumption⟩
    · exact hz2 i a (by omega)
  · have hxz : 0 < z := by omega
    have hn : ¬ (x.1 + z < 16 ∧ g y.1 (x.1 + z) = true) := fun hh => by have hf : g y.1 (x.1 + z) = false := (by rw [← gv_at3 g (y := y.1) (x := x.1) (z := z) (by omega) (by omega)]; assumption); rw [hf] at hh; exact absurd hh.2 Bool.false_ne_true
    refine e_round (x.1 + z + 1, _, _, H') ⟨by dsimp only; omega, hv', ?_, by dsimp only; rw [List.length_append, List.length_singleton]; omega⟩ ⟨slook_to rfl (vint_to (by push_cast; rfl)), (by repeat' first | exact trivial | refine ⟨rfl, ?_⟩)⟩ (fun w hw => hw.sub (selO_sub [false, true, true, true] _ _ rfl)) (by dsimp only; omega)
    dsimp only
    rw [← hx3, rowR_app (f := g y.1) (y := y.1) (h := (e : Int)) (x := x.1) (z := x.1 + z) (by omega) (by omega) hz2 hn, show (((x.1 + z : Nat) : Int) - (x.1 : Int)) = (z : Int) by omega, List.append_assoc, List.append_assoc]
  · have hxz : z = 0 := by omega
    subst hxz
    have hn : ¬ (x.1 < 16 ∧ g y.1 x.1 = true) := fun hh => by have hf : g y.1 (x.1 + 0) = false := (by rw [← gv_at3 g (y := y.1) (x := x.1) (z := 0) (by omega) (by omega)]; assumption); rw [Nat.add_zero] at hf; rw [hf] at hh; exact absurd hh.2 Bool.false_ne_true
    refine e_round (x.1 + 1, x.2.1, x.2.2.1, x.2.2.2) ⟨by dsimp only; omega, hx2, ?_, by dsimp only; omega⟩ ⟨slook_to rfl (vint_to (by push_cast; omega)), (by repeat' first | exact trivial | refine ⟨rfl, ?_⟩)⟩ (fun w hw => hw) (by dsimp only; omega)
    dsimp only
    rw [← rowR_skip (f := g y.1) (y := y.1) (h := (e : Int)) (by omega) hn]; exact hx3
  · have hxz : 0 < z := by omega
    have hn : ¬ (x.1 + z < 16 ∧ g y.1 (x.1 + z) = true) := fun hh => by omega
    refine e_round (x.1 + z + 1, _, _, H') ⟨by dsimp only; omega, hv', ?_, by dsimp only; rw [List.length_append, List.length_singleton]; omega⟩ ⟨slook_to rfl (vint_to (by push_cast; rfl)), (by repeat' first | exact trivial | refine ⟨rfl, ?_⟩)⟩ (fun w hw => hw.sub (selO_sub [false, true, true, true] _ _ rfl)) (by dsimp only; omega)
    dsimp only
    rw [← hx3, rowR_app (f := g y.1) (y := y.1) (h := (e : Int)) (x := x.1) (z := x.1 + z) (by omega) (by omega) hz2 hn, show (((x.1 + z : Nat) : Int) - (x.1 : Int)) = (z : Int) by omega, List.append_assoc, List.append_assoc]
  · rw [rowR_done (by omega), List.nil_append] at hx3
    exact e_round (y.1 + e, x.2.1, x.2.2.1, x.2.2.2) ⟨by dsimp only; omega, hx2, hx3, by dsimp only; omega⟩ ⟨slook_to rfl (vint_to (by push_cast; rfl)), (by repeat' first | exact trivial | refine ⟨rfl, ?_⟩)⟩ (fun w hw => hw) (by dsimp only; omega)
  · have e0 : y.1 = 16 := by omega
    rw [e0, canonR_done (by omega), List.append_nil] at hy3
    rw [hy3] at hy2
    exact s_leaveSF rfl rfl rfl fwA (fun w hw => ⟨_, _, rfl, ⟨_, rfl, hy2⟩, hw.toFresh (H := y.2.2.2) gpA⟩)
end Go.Proofs.Ytakijgpoaeggnaa
/-
  Contracts: regions of the reference.
-/
set_option linter.unusedVariables false
namespace Go.Proofs.Ytakijgpoaeggnaa
open Go Sx
attribute [local irreducible] Exit.then Exit.inBlock bodyPost OVs OInts canonR rowR gvals points Sx.canon
set_option maxHeartbeats 4000000 in
theorem c_sregionOf (v : Value) (l : List DRect) (W : World) (hv : RRects W v l) : SYieldsF Try.prog 147 #[v] (fun u H => OReg u (canon (points l)) H) W := by
  (first | apply SYields.mk | apply SYieldsF.mk | skip); refine s_enter Try.func147 rfl Try.ntmps147 rfl ?_
  repeat' (first | exact rfl | (apply kO; (first | exact ov_pure rfl | (apply kOBin; (first | exact aBin)) | (apply kOCall; (first | (apply kCallB; (first | exact aBlt | exact aLenR)))) | (apply kOLoad; (first | exact aLdF | exact aLdR)) | exact ov_fieldAddr rfl | (apply kOIdx; (first | exact aIdx)) | exact aRest | exact aNew | exact (ov_field1 (ft := 37) rfl rfl rfl rfl))) | (refine kN ?_; (first | (refine kCall ?_; (first | (refine kWFn 191 ?_; (refine s_callF (fun u H => OBools u (gvals (points l)) H) rfl (fun w hw => c_l03Grid v l w (hv.keep (hw.cells rfl))) rfl (fun u H hu => ?_))) | (refine kWFn 190 ?_; (refine s_callF (fun u H => OReg u (canon (points l)) H) rfl (fun w hw => c_l03Canon _ (points l) w (OBools.rd (by assumption) (hfA hw))) rfl (fun u H hu => ?_); obtain ⟨d', rfl, hu⟩ := hu)) | apply s_step)) | (refine kStore ?_; (first | (refine s_storeS _ rfl rfl gpA rfl (ones_cons (OVs.one (by assumption)) rfl) (by rfl) ?_) | refine s_store1 _ rfl rfl gpA rfl (by rfl) ?_ | refine s_storeS _ rfl rfl gpA rfl rfl (by rfl) ?_ | refine s_storeS _ rfl rfl gpA rfl (ones_img oiA) (by rfl) ?_)) | refine s_boxS rfl rfl (fun b hb => ?_) | refine s_allocS rfl (fun b hb => ?_) | refine s_box1 rfl rfl rfl (fun b hb => ?_) | refine s_alloc1 rfl rfl (fun b hb => ?_) | refine s_buildSlice0 rfl (fun b hb => ?_) | refine s_buildSlice rfl rfl rfl rfl rfl (fun b hb => ?_) | apply s_step)) | (refine kG ?_; (first | refine s_gyes rfl rfl rfl ?_ | refine s_gno rfl rfl rfl rfl rfl ?_ | ((first | refine s_split_d rfl rfl (fun h => ?_) (fun h => ?_) | refine s_split_n rfl rfl (fun h => ?_) (fun h => ?_)) <;> (try (first | contradiction | (exfalso; omega)))) | refine s_split_nb rfl rfl (fun h => ?_) (fun h => ?_) | refine s_split rfl rfl (fun h => ?_) (fun h => ?_))) | refine l_then ?_ | (refine kC ?_; (first | refine c_seq ?_ | refine c_regionN rfl ?_ | refine c_ret ?_ | (refine kCond ?_; (first | refine c_cond_t rfl ?_ | refine c_cond_f rfl ?_ | ((first | refine c_cond_d rfl (fun h => ?_) (fun h => ?_) | refine c_cond_n rfl (fun h => ?_) (fun h => ?_)) <;> (try (first | contradiction | (exfalso; omega)))) | refine c_cond_nb rfl (fun h => ?_) (fun h => ?_) | refine c_cond rfl (fun h => ?_) (fun h => ?_))) | refine c_block ?_ | refine c_skip ?_ | refine c_exit ?_ | refine c_regionQN rfl rfl (by decide +kernel) ?_)) | apply s_stepQ | (refine kQG ?_; (first | refine s_gyesQ rfl rfl rfl ?_ | refine s_gnoQ rfl rfl rfl rfl rfl ?_ | ((first | refine s_splitQ_d rfl rfl (fun h => ?_) (fun h => ?_) | refine s_splitQ_n rfl rfl (fun h => ?_) (fun h => ?_)) <;> (try (first | contradiction | (exfalso; omega)))) | refine s_splitQ_nb rfl rfl (fun h => ?_) (fun h => ?_) | refine s_splitQ rfl rfl (fun h => ?_) (fun h => ?_))) | refine lQ_then ?_ | refine lQ_ends ?_ | (refine kE ?_; (first | refine e_then_r ?_ | refine e_block_r ?_ | refine e_then_n ?_ | refine e_then_x ?_ | refine e_block_n ?_ | refine e_block_x ?_ | refine e_block_y rfl ?_)) | refine l_ends ?_)
  all_goals (refine kE ?_; refine s_leaveSF rfl rfl rfl fwA (fun w hw => ?_))
  all_goals exact ⟨_, _, rfl, ⟨_, rfl, hu⟩, hw.toFresh (H := H) gpA⟩
set_option maxHeartbeats 4000000 in
theorem c_l03Same (u v : Value) (k l : List DRect) (W : World) (hu : RRects W u k) (hv : RRects W v l) : SYields Try.prog 175 #[u, v] (.bool (decide (k = l))) W := by
  have hkl := hu.len
  have hll := hv.len
  (first | apply SYields.mk | apply SYieldsF.mk | skip); refine s_enter Try.func175 rfl Try.ntmps175 rfl ?_
  repeat' (first | exact rfl | (apply kO; (first | exact ov_pure rfl | (apply kOBin; (first | exact aBin)) | (apply kOCall; (first | (apply kCallB; (first | exact aBlt | exact (ov_lenR (fun w hw => RRow.keep hu (hw.cells rfl)) rfl) | exact (ov_lenR (fun w hw => RRow.keep hv (hw.cells rfl)) rfl) | exact aLenR)))) | (apply kOLoad; (first | exact (ov_ldRZ (fun w hw => RRow.keep hu (hw.cells rfl)) rfl rfl (by omega) rfl) | exact (ov_ldRZ (fun w hw => RRow.keep hv (hw.cells rfl)) rfl rfl (by omega) rfl) | exact aLdF | exact aLdR)) | exact ov_fieldAddr rfl | (apply kOIdx; (first | exact (ov_idxR (fun w hw => RRow.keep hu (hw.cells rfl)) rfl rfl (by omega)) | exact (ov_idxR (fun w hw => RRow.keep hv (hw.cells rfl)) rfl rfl (by omega)) | exact aIdx)) | exact aRest | exact (ov_neRect rfl rfl) | exact aNew | exact (ov_field1 (ft := 37) rfl rfl rfl rfl))) | (refine kN ?_; (first | (refine kStore ?_; (first | refine s_store1 _ rfl rfl gpA rfl (by rfl) ?_ | refine s_storeS _ rfl rfl gpA rfl rfl (by rfl) ?_ | refine s_storeS _ rfl rfl gpA rfl (ones_img oiA) (by rfl) ?_)) | refine s_boxS rfl rfl (fun b hb => ?_) | refine s_allocS rfl (fun b hb => ?_) | refine s_box1 rfl rfl rfl (fun b hb => ?_) | refine s_alloc1 rfl rfl (fun b hb => ?_) | refine s_buildSlice0 rfl (fun b hb => ?_) | refine s_buildSlice rfl rfl rfl rfl rfl (fun b hb => ?_) | apply s_step)) | (refine kG ?_; (first | refine s_gyes rfl rfl rfl ?_ | refine s_gno rfl rfl rfl rfl rfl ?_ | ((first | refine s_split_d rfl rfl (fun h => ?_) (fun h => ?_) | refine s_split_n rfl rfl (fun h => ?_) (fun h => ?_)) <;> (try (first | contradiction | (exfalso; omega)))) | refine s_split_nb rfl rfl (fun h => ?_) (fun h => ?_) | refine s_split rfl rfl (fun h => ?_) (fun h => ?_))) | refine l_then ?_ | (refine kC ?_; (first | (refine c_loopV (ι := Nat) (fun j => j ≤ k.length ∧ eqTo k l DRect.zero j) (fun j => [(5, .int .i64 (j : Int))]) (fun _ => []) (fun j => k.length - j) 0 ⟨by omega, eqTo_zero _ _ _⟩ rfl (fun _ => rfl) ⟨rfl, trivial⟩ (fun w hw => hw) (fun j hj => ?_)) | refine c_seq ?_ | refine c_regionN rfl ?_ | refine c_ret ?_ | (refine kCond ?_; (first | refine c_cond_t rfl ?_ | refine c_cond_f rfl ?_ | ((first | refine c_cond_d rfl (fun h => ?_) (fun h => ?_) | refine c_cond_n rfl (fun h => ?_) (fun h => ?_)) <;> (try (first | contradiction | (exfalso; omega)))) | refine c_cond_nb rfl (fun h => ?_) (fun h => ?_) | refine c_cond rfl (fun h => ?_) (fun h => ?_))) | refine c_block ?_ | refine c_skip ?_ | refine c_exit ?_ | refine c_regionQN rfl rfl (by decide +kernel) ?_)) | apply s_stepQ | (refine kQG ?_; (first | refine s_gyesQ rfl rfl rfl ?_ | refine s_gnoQ rfl rfl rfl rfl rfl ?_ | ((first | refine s_splitQ_d rfl rfl (fun h => ?_) (fun h => ?_) | refine s_splitQ_n rfl rfl (fun h => ?_) (fun h => ?_)) <;> (try (first | contradiction | (exfalso; omega)))) | refine s_splitQ_nb rfl rfl (fun h => ?_) (fun h => ?_) | refine s_splitQ rfl rfl (fun h => ?_) (fun h => ?_))) | refine lQ_then ?_ | refine lQ_ends ?_ | (refine kE ?_; (first | refine e_then_r ?_ | refine e_block_r ?_ | refine e_then_n ?_ | refine e_then_x ?_ | refine e_block_n ?_ | refine e_block_x ?_ | refine e_block_y rfl ?_)) | refine l_ends ?_)
  all_goals first
    | exact s_leave1 rfl rfl (fun w hw => ⟨ret_false (ne_of_len (by omega)), hw.below⟩)
    | exact s_leave1 rfl rfl (fun w hw => ⟨ret_false (fun e => by subst e; contradiction), hw.below⟩)
    | exact e_round (j + 1) ⟨by omega, eqTo_next hj.2 (by assumption)⟩ ⟨rfl, (by repeat' first | exact trivial | refine ⟨rfl, ?_⟩)⟩ (fun w hw => hw) (by omega)
    | exact s_leave1 rfl rfl (fun w hw => ⟨ret_true (list_eq_of_getD DRect.zero (by omega) (fun i hi => hj.2 i (by omega))), hw.below⟩)
set_option maxHeartbeats 4000000 in
theorem c_sregionOk (v : Value) (l : List DRect) (W : World) (hv : RRects W v l) : SYields Try.prog 121 #[vReg v] (.bool (decide (regionOk l))) W := by
  (first | apply SYields.mk | apply SYieldsF.mk | skip); refine s_enter Try.func121 rfl Try.ntmps121 rfl ?_
  repeat' (first | exact rfl | (apply kO; (first | exact ov_pure rfl | (apply kOBin; (first | exact aBin)) | (apply kOCall; (first | (apply kCallF; (first | exact (ov_call rfl (fun w hw => c_l03Same _ _ (canon (points l)) l w (ORects.rd (by assumption) (hfA hw)) (RVs.keep hv (hw.cells rfl)))))) | (apply kCallB; (first | exact aBlt | exact aLenR)))) | (apply kOLoad; (first | exact aLdF | exact aLdR)) | exact ov_fieldAddr rfl | (apply kOIdx; (first | exact aIdx)) | exact aRest | exact (ov_field1 (ft := 32) rfl rfl rfl rfl) | exact aNew | exact (ov_field1 (ft := 37) rfl rfl rfl rfl))) | (refine kN ?_; (first | (refine kCall ?_; (first | (refine kWFn 147 ?_; (refine s_callF (fun u H => OReg u (canon (points l)) H) rfl (fun w hw => c_sregionOf v l w (hv.keep (hw.cells rfl))) rfl (fun u H hu => ?_); obtain ⟨d', rfl, hu⟩ := hu)) | apply s_step)) | (refine kStore ?_; (first | refine s_store1 _ rfl rfl gpA rfl (by rfl) ?_ | refine s_storeS _ rfl rfl gpA rfl rfl (by rfl) ?_ | refine s_storeS _ rfl rfl gpA rfl (ones_img oiA) (by rfl) ?_)) | refine s_boxS rfl rfl (fun b hb => ?_) | refine s_allocS rfl (fun b hb => ?_) | refine s_box1 rfl rfl rfl (fun b hb => ?_) | refine s_alloc1 rfl rfl (fun b hb => ?_) | refine s_buildSlice0 rfl (fun b hb => ?_) | refine s_buildSlice rfl rfl rfl rfl rfl (fun b hb => ?_) | apply s_step)) | (refine kG ?_; (first | refine s_gyes rfl rfl rfl ?_ | refine s_gno rfl rfl rfl rfl rfl ?_ | ((first | refine s_split_d rfl rfl (fun h => ?_) (fun h => ?_) | refine s_split_n rfl rfl (fun h => ?_) (fun h => ?_)) <;> (try (first | contradiction | (exfalso; omega)))) | refine s_split_nb rfl rfl (fun h => ?_) (fun h => ?_) | refine s_split rfl rfl (fun h => ?_) (fun h => ?_))) | (refine kS ?_; (first | refine h_exec rfl ?_ | refine h_take_nil rfl rfl rfl ?_ | refine h_take_pick rfl rfl rfl ?_ | refine h_nil ?_ | refine h_alt ?_ ?_ | apply h_take)) | (refine kBack ?_; (first | refine h_back_last rfl ?_ | refine h_backN rfl subA ?_)) | refine l_then ?_ | (refine kC ?_; (first | (refine kReg 1 ?_; refine c_regionSN (SPlan.take 0 (SPlan.take 1 (SPlan.take 4 (SPlan.take 5 (SPlan.run 2 (SPlan.take 3 (SPlan.run 6 (SPlan.take 7 SPlan.done)))))))) none rfl rfl (by decide +kernel) ?_) | refine c_seq ?_ | refine c_regionN rfl ?_ | refine c_ret ?_ | (refine kCond ?_; (first | refine c_cond_t rfl ?_ | refine c_cond_f rfl ?_ | ((first | refine c_cond_d rfl (fun h => ?_) (fun h => ?_) | refine c_cond_n rfl (fun h => ?_) (fun h => ?_)) <;> (try (first | contradiction | (exfalso; omega)))) | refine c_cond_nb rfl (fun h => ?_) (fun h => ?_) | refine c_cond rfl (fun h => ?_) (fun h => ?_))) | refine c_block ?_ | refine c_skip ?_ | refine c_exit ?_ | refine c_regionQN rfl rfl (by decide +kernel) ?_)) | apply s_stepQ | (refine kQG ?_; (first | refine s_gyesQ rfl rfl rfl ?_ | refine s_gnoQ rfl rfl rfl rfl rfl ?_ | ((first | refine s_splitQ_d rfl rfl (fun h => ?_) (fun h => ?_) | refine s_splitQ_n rfl rfl (fun h => ?_) (fun h => ?_)) <;> (try (first | contradiction | (exfalso; omega)))) | refine s_splitQ_nb rfl rfl (fun h => ?_) (fun h => ?_) | refine s_splitQ rfl rfl (fun h => ?_) (fun h => ?_))) | refine lQ_then ?_ | refine lQ_ends ?_ | (refine kE ?_; (first | refine e_then_r ?_ | refine e_block_r ?_ | refine e_then_n ?_ | refine e_then_x ?_ | refine e_block_n ?_ | refine e_block_x ?_ | refine e_block_y rfl ?_)) | refine l_ends ?_)
  all_goals refine s_leave1 rfl rfl (fun w hw => ⟨ret_dec Iff.rfl, hw.below⟩)
end Go.Proofs.Ytakijgpoaeggnaa
/-
  Contracts: regions of the program.
-/
set_option linter.unusedVariables false
namespace Go.Proofs.Ytakijgpoaeggnaa
open Go Sx
attribute [local irreducible] Exit.then Exit.inBlock bodyPost OVs OInts canonR rowR points Sx.canon
set_option maxHeartbeats 4000000 in
theorem c_iregionOf (v : Value) (l : List DRect) (W : World) (hv : RRects W v l) : SYieldsF Try.prog 89 #[v] (fun u H => OReg u (canon (points l)) H) W := by
  have hll := hv.len
  have hv' := hv.form
  obtain ⟨_, _, rfl⟩ := hv'
  have h0 : points (l.take 0) = Grid.none := by unfold points; funext y x; rfl
  (first | apply SYields.mk | apply SYieldsF.mk | skip); refine s_enter Try.func89 rfl Try.ntmps89 rfl ?_
  repeat' (first | exact rfl | (apply kO; (first | exact ov_pure rfl | (apply kOBin; (first | exact aBin)) | (apply kOCall; (first | (apply kCallF; (first | exact (ov_call rfl (fun w hw => c_irectOk (l.getD j DRect.zero) w)) | exact (ov_call rfl (fun w hw => c_gridOf (l.getD j DRect.zero) w)) | exact (ov_call rfl (fun w hw => c_gor (points (l.take j)) (rectG (l.getD j DRect.zero)) w)))) | (apply kCallB; (first | exact aBlt | exact aLenR)))) | (apply kOLoad; (first | exact (ov_ldRZ (fun w hw => RRow.keep hv (hw.cells rfl)) rfl rfl (by omega) rfl) | exact aLdF | exact aLdR)) | exact ov_fieldAddr rfl | (apply kOIdx; (first | exact (ov_idxR (fun w hw => RRow.keep hv (hw.cells rfl)) rfl rfl (by omega)) | exact aIdx)) | exact aRest | exact (ov_buildA0) | exact aNew | exact (ov_field1 (ft := 37) rfl rfl rfl rfl))) | (refine kN ?_; (first | (refine kCall ?_; (first | (refine kWFn 77 ?_; (refine s_callF (fun u H => OReg u (canon (points (l.take j))) H) rfl (fun w hw => c_gregion (points (l.take j)) w) rfl (fun u H hu => ?_); obtain ⟨d', rfl, hu⟩ := hu)) | apply s_step)) | (refine kStore ?_; (first | (refine s_storeS _ rfl rfl gpA rfl (ones_cons (OVs.one (by assumption)) rfl) (by rfl) ?_) | refine s_store1 _ rfl rfl gpA rfl (by rfl) ?_ | refine s_storeS _ rfl rfl gpA rfl rfl (by rfl) ?_ | refine s_storeS _ rfl rfl gpA rfl (ones_img oiA) (by rfl) ?_)) | refine s_boxS rfl rfl (fun b hb => ?_) | refine s_allocS rfl (fun b hb => ?_) | refine s_box1 rfl rfl rfl (fun b hb => ?_) | refine s_alloc1 rfl rfl (fun b hb => ?_) | refine s_buildSlice0 rfl (fun b hb => ?_) | refine s_buildSlice rfl rfl rfl rfl rfl (fun b hb => ?_) | apply s_step)) | (refine kG ?_; (first | refine s_gyes rfl rfl rfl ?_ | refine s_gno rfl rfl rfl rfl rfl ?_ | ((first | refine s_split_d rfl rfl (fun h => ?_) (fun h => ?_) | refine s_split_n rfl rfl (fun h => ?_) (fun h => ?_)) <;> (try (first | contradiction | (exfalso; omega)))) | refine s_split_nb rfl rfl (fun h => ?_) (fun h => ?_) | refine s_split rfl rfl (fun h => ?_) (fun h => ?_))) | (refine kS ?_; (first | refine h_exec rfl ?_ | refine h_take_nil rfl rfl rfl ?_ | refine h_take_pick rfl rfl rfl ?_ | refine h_nil ?_ | refine h_alt ?_ ?_ | apply h_take)) | (refine kBack ?_; (first | refine h_back_last rfl ?_ | refine h_backN rfl subA ?_)) | refine l_then ?_ | (refine kC ?_; (first | (refine kReg 6 ?_; refine c_regionSN (SPlan.take 0 (SPlan.take 1 (SPlan.run 2 (SPlan.run 3 (SPlan.run 4 SPlan.done))))) (some 4) rfl rfl (by decide +kernel) ?_) | (refine kReg 6 ?_; refine c_regionSN (SPlan.take 0 (SPlan.take 1 (SPlan.run 2 (SPlan.run 3 (SPlan.run 4 SPlan.done))))) none rfl rfl (by decide +kernel) ?_) | (refine c_loopV (ι := Nat) (fun j => j ≤ l.length) (fun j => [(9, .int .i64 (j : Int))]) (fun j => [[(_, srow (gl (points (l.take j))) _)], _]) (fun j => l.length - j) 0 (by omega) rfl (fun _ => rfl) ⟨rfl, trivial⟩ (fun w hw => by rw [h0]; exact hw) (fun j hj => ?_)) | refine c_seq ?_ | refine c_regionN rfl ?_ | refine c_ret ?_ | (refine kCond ?_; (first | refine c_cond_t rfl ?_ | refine c_cond_f rfl ?_ | ((first | refine c_cond_d rfl (fun h => ?_) (fun h => ?_) | refine c_cond_n rfl (fun h => ?_) (fun h => ?_)) <;> (try (first | contradiction | (exfalso; omega)))) | refine c_cond_nb rfl (fun h => ?_) (fun h => ?_) | refine c_cond rfl (fun h => ?_) (fun h => ?_))) | refine c_block ?_ | refine c_skip ?_ | refine c_exit ?_ | refine c_regionQN rfl rfl (by decide +kernel) ?_)) | apply s_stepQ | (refine kQG ?_; (first | refine s_gyesQ rfl rfl rfl ?_ | refine s_gnoQ rfl rfl rfl rfl rfl ?_ | ((first | refine s_splitQ_d rfl rfl (fun h => ?_) (fun h => ?_) | refine s_splitQ_n rfl rfl (fun h => ?_) (fun h => ?_)) <;> (try (first | contradiction | (exfalso; omega)))) | refine s_splitQ_nb rfl rfl (fun h => ?_) (fun h => ?_) | refine s_splitQ rfl rfl (fun h => ?_) (fun h => ?_))) | refine lQ_then ?_ | refine lQ_ends ?_ | (refine kE ?_; (first | refine e_then_r ?_ | refine e_block_r ?_ | refine e_then_n ?_ | refine e_then_x ?_ | refine e_block_n ?_ | refine e_block_x ?_ | refine e_block_y rfl ?_)) | refine l_ends ?_)
  · exact e_round (j + 1) (by omega) ⟨slook_to rfl (vint_to (by push_cast; rfl)), (by repeat' first | exact trivial | refine ⟨rfl, ?_⟩)⟩ (fun w hw => by rw [points_take (by omega)]; exact hw.sub (selO_sub [false, true, true] _ _ rfl)) (by omega)
  · exact e_round (j + 1) (by omega) ⟨slook_to rfl (vint_to (by push_cast; rfl)), (by repeat' first | exact trivial | refine ⟨rfl, ?_⟩)⟩ (fun w hw => by rw [points_take_ok (by omega) (by assumption)]; exact hw.sub (selO_sub [false, true, true] _ _ rfl)) (by omega)
  · rw [List.take_of_length_le (by omega)] at hu
    refine s_leaveSF rfl rfl rfl fwA (fun w hw => ⟨_, _, rfl, ⟨_, rfl, hu⟩, hw.toFresh (H := H) gpA⟩)
set_option maxHeartbeats 4000000 in
theorem c_equalRects (u v : Value) (k l : List DRect) (W : World) (hu : RRects W u k) (hv : RRects W v l) : SYields Try.prog 88 #[u, v] (.bool (decide (k = l))) W := by
  have hkl := hu.len
  have hll := hv.len
  (first | apply SYields.mk | apply SYieldsF.mk | skip); refine s_enter Try.func88 rfl Try.ntmps88 rfl ?_
  repeat' (first | exact rfl | (apply kO; (first | exact ov_pure rfl | (apply kOBin; (first | exact aBin)) | (apply kOCall; (first | (apply kCallB; (first | exact aBlt | exact (ov_lenR (fun w hw => RRow.keep hu (hw.cells rfl)) rfl) | exact (ov_lenR (fun w hw => RRow.keep hv (hw.cells rfl)) rfl) | exact aLenR)))) | (apply kOLoad; (first | exact (ov_ldRZ (fun w hw => RRow.keep hu (hw.cells rfl)) rfl rfl (by omega) rfl) | exact (ov_ldRZ (fun w hw => RRow.keep hv (hw.cells rfl)) rfl rfl (by omega) rfl) | exact aLdF | exact aLdR)) | exact ov_fieldAddr rfl | (apply kOIdx; (first | exact (ov_idxR (fun w hw => RRow.keep hu (hw.cells rfl)) rfl rfl (by omega)) | exact (ov_idxR (fun w hw => RRow.keep hv (hw.cells rfl)) rfl rfl (by omega)) | exact aIdx)) | exact aRest | exact (ov_neRect rfl rfl) | exact aNew | exact (ov_field1 (ft := 37) rfl rfl rfl rfl))) | (refine kN ?_; (first | (refine kStore ?_; (first | refine s_store1 _ rfl rfl gpA rfl (by rfl) ?_ | refine s_storeS _ rfl rfl gpA rfl rfl (by rfl) ?_ | refine s_storeS _ rfl rfl gpA rfl (ones_img oiA) (by rfl) ?_)) | refine s_boxS rfl rfl (fun b hb => ?_) | refine s_allocS rfl (fun b hb => ?_) | refine s_box1 rfl rfl rfl (fun b hb => ?_) | refine s_alloc1 rfl rfl (fun b hb => ?_) | refine s_buildSlice0 rfl (fun b hb => ?_) | refine s_buildSlice rfl rfl rfl rfl rfl (fun b hb => ?_) | apply s_step)) | (refine kG ?_; (first | refine s_gyes rfl rfl rfl ?_ | refine s_gno rfl rfl rfl rfl rfl ?_ | ((first | refine s_split_d rfl rfl (fun h => ?_) (fun h => ?_) | refine s_split_n rfl rfl (fun h => ?_) (fun h => ?_)) <;> (try (first | contradiction | (exfalso; omega)))) | refine s_split_nb rfl rfl (fun h => ?_) (fun h => ?_) | refine s_split rfl rfl (fun h => ?_) (fun h => ?_))) | refine l_then ?_ | (refine kC ?_; (first | (refine c_loopV (ι := Nat) (fun j => j ≤ k.length ∧ eqTo k l DRect.zero j) (fun j => [(13, .int .i64 (j : Int))]) (fun _ => _) (fun j => k.length - j) 0 ⟨by omega, eqTo_zero _ _ _⟩ rfl (fun _ => rfl) ⟨rfl, trivial⟩ (fun w hw => hw) (fun j hj => ?_)) | refine c_seq ?_ | refine c_regionN rfl ?_ | refine c_ret ?_ | (refine kCond ?_; (first | refine c_cond_t rfl ?_ | refine c_cond_f rfl ?_ | ((first | refine c_cond_d rfl (fun h => ?_) (fun h => ?_) | refine c_cond_n rfl (fun h => ?_) (fun h => ?_)) <;> (try (first | contradiction | (exfalso; omega)))) | refine c_cond_nb rfl (fun h => ?_) (fun h => ?_) | refine c_cond rfl (fun h => ?_) (fun h => ?_))) | refine c_block ?_ | refine c_skip ?_ | refine c_exit ?_ | refine c_regionQN rfl rfl (by decide +kernel) ?_)) | apply s_stepQ | (refine kQG ?_; (first | refine s_gyesQ rfl rfl rfl ?_ | refine s_gnoQ rfl rfl rfl rfl rfl ?_ | ((first | refine s_splitQ_d rfl rfl (fun h => ?_) (fun h => ?_) | refine s_splitQ_n rfl rfl (fun h => ?_) (fun h => ?_)) <;> (try (first | contradiction | (exfalso; omega)))) | refine s_splitQ_nb rfl rfl (fun h => ?_) (fun h => ?_) | refine s_splitQ rfl rfl (fun h => ?_) (fun h => ?_))) | refine lQ_then ?_ | refine lQ_ends ?_ | (refine kE ?_; (first | refine e_then_r ?_ | refine e_block_r ?_ | refine e_then_n ?_ | refine e_then_x ?_ | refine e_block_n ?_ | refine e_block_x ?_ | refine e_block_y rfl ?_)) | refine l_ends ?_)
  all_goals first
    | exact s_leave1 rfl rfl (fun w hw => ⟨ret_false (ne_of_len (by omega)), hw.below⟩)
    | exact s_leave1 rfl rfl (fun w hw => ⟨ret_false (fun e => by subst e; contradiction), hw.below⟩)
    | exact e_round (j + 1) ⟨by omega, eqTo_next hj.2 (by assumption)⟩ ⟨rfl, (by repeat' first | exact trivial | refine ⟨rfl, ?_⟩)⟩ (fun w hw => hw) (by omega)
    | exact s_leave1 rfl rfl (fun w hw => ⟨ret_true (list_eq_of_getD DRect.zero (by omega) (fun i hi => hj.2 i (by omega))), hw.below⟩)
set_option maxHeartbeats 4000000 in
theorem c_iregionOk (v : Value) (l : List DRect) (W : World) (hv : RRects W v l) : SYields Try.prog 23 #[vReg v] (.bool (decide (regionOk l))) W := by
  (first | apply SYields.mk | apply SYieldsF.mk | skip); refine s_enter Try.func23 rfl Try.ntmps23 rfl ?_
  repeat' (first | exact rfl | (apply kO; (first | exact ov_pure rfl | (apply kOBin; (first | exact aBin)) | (apply kOCall; (first | (apply kCallF; (first | exact (ov_call rfl (fun w hw => c_equalRects _ _ (canon (points l)) l w (ORects.rd (by assumption) (hfA hw)) (RVs.keep hv (hw.cells rfl)))))) | (apply kCallB; (first | exact aBlt | exact aLenR)))) | (apply kOLoad; (first | exact aLdF | exact aLdR)) | exact ov_fieldAddr rfl | (apply kOIdx; (first | exact aIdx)) | exact aRest | exact (ov_field1 (ft := 32) rfl rfl rfl rfl) | exact aNew | exact (ov_field1 (ft := 37) rfl rfl rfl rfl))) | (refine kN ?_; (first | (refine kCall ?_; (first | (refine kWFn 89 ?_; (refine s_callF (fun u H => OReg u (canon (points l)) H) rfl (fun w hw => c_iregionOf v l w (hv.keep (hw.cells rfl))) rfl (fun u H hu => ?_); obtain ⟨d', rfl, hu⟩ := hu)) | apply s_step)) | (refine kStore ?_; (first | refine s_store1 _ rfl rfl gpA rfl (by rfl) ?_ | refine s_storeS _ rfl rfl gpA rfl rfl (by rfl) ?_ | refine s_storeS _ rfl rfl gpA rfl (ones_img oiA) (by rfl) ?_)) | refine s_boxS rfl rfl (fun b hb => ?_) | refine s_allocS rfl (fun b hb => ?_) | refine s_box1 rfl rfl rfl (fun b hb => ?_) | refine s_alloc1 rfl rfl (fun b hb => ?_) | refine s_buildSlice0 rfl (fun b hb => ?_) | refine s_buildSlice rfl rfl rfl rfl rfl (fun b hb => ?_) | apply s_step)) | (refine kG ?_; (first | refine s_gyes rfl rfl rfl ?_ | refine s_gno rfl rfl rfl rfl rfl ?_ | ((first | refine s_split_d rfl rfl (fun h => ?_) (fun h => ?_) | refine s_split_n rfl rfl (fun h => ?_) (fun h => ?_)) <;> (try (first | contradiction | (exfalso; omega)))) | refine s_split_nb rfl rfl (fun h => ?_) (fun h => ?_) | refine s_split rfl rfl (fun h => ?_) (fun h => ?_))) | (refine kS ?_; (first | refine h_exec rfl ?_ | refine h_take_nil rfl rfl rfl ?_ | refine h_take_pick rfl rfl rfl ?_ | refine h_nil ?_ | refine h_alt ?_ ?_ | apply h_take)) | (refine kBack ?_; (first | refine h_back_last rfl ?_ | refine h_backN rfl subA ?_)) | refine l_then ?_ | (refine kC ?_; (first | (refine kReg 1 ?_; refine c_regionSN (SPlan.take 0 (SPlan.take 1 (SPlan.take 4 (SPlan.take 5 (SPlan.run 2 (SPlan.take 3 (SPlan.run 6 (SPlan.take 7 SPlan.done)))))))) none rfl rfl (by decide +kernel) ?_) | refine c_seq ?_ | refine c_regionN rfl ?_ | refine c_ret ?_ | (refine kCond ?_; (first | refine c_cond_t rfl ?_ | refine c_cond_f rfl ?_ | ((first | refine c_cond_d rfl (fun h => ?_) (fun h => ?_) | refine c_cond_n rfl (fun h => ?_) (fun h => ?_)) <;> (try (first | contradiction | (exfalso; omega)))) | refine c_cond_nb rfl (fun h => ?_) (fun h => ?_) | refine c_cond rfl (fun h => ?_) (fun h => ?_))) | refine c_block ?_ | refine c_skip ?_ | refine c_exit ?_ | refine c_regionQN rfl rfl (by decide +kernel) ?_)) | apply s_stepQ | (refine kQG ?_; (first | refine s_gyesQ rfl rfl rfl ?_ | refine s_gnoQ rfl rfl rfl rfl rfl ?_ | ((first | refine s_splitQ_d rfl rfl (fun h => ?_) (fun h => ?_) | refine s_splitQ_n rfl rfl (fun h => ?_) (fun h => ?_)) <;> (try (first | contradiction | (exfalso; omega)))) | refine s_splitQ_nb rfl rfl (fun h => ?_) (fun h => ?_) | refine s_splitQ rfl rfl (fun h => ?_) (fun h => ?_))) | refine lQ_then ?_ | refine lQ_ends ?_ | (refine kE ?_; (first | refine e_then_r ?_ | refine e_block_r ?_ | refine e_then_n ?_ | refine e_then_x ?_ | refine e_block_n ?_ | refine e_block_x ?_ | refine e_block_y rfl ?_)) | refine l_ends ?_)
  all_goals refine s_leave1 rfl rfl (fun w hw => ⟨ret_dec Iff.rfl, hw.below⟩)
end Go.Proofs.Ytakijgpoaeggnaa
/-
  Contracts: is a chain of buffers in order; which buffer is next. By both.
-/
set_option linter.unusedVariables false
namespace Sx
/-- the first j numbers hold no x -/
theorem take_has {l : List Int} {j : Nat} {x : Int} (hj : j ≤ l.length) : x ∈ l.take j ↔ ∃ i, i < j ∧ l.getD i 0 = x := by
  constructor
  · intro h
    obtain ⟨i, hi, e⟩ := List.mem_iff_getElem.1 h
    rw [List.length_take] at hi
    rw [List.getElem_take] at e
    exact ⟨i, by omega, by rw [List.getD_eq_getElem?_getD, List.getElem?_eq_getElem (by omega)]; exact e⟩
  · rintro ⟨i, hi, e⟩
    rw [List.getD_eq_getElem?_getD, List.getElem?_eq_getElem (by omega)] at e
    exact List.mem_iff_getElem.2 ⟨i, by rw [List.length_take]; omega, by rw [List.getElem_take]; exact e⟩
def hasTo (l : List Int) (x : Int) (j : Nat) : Prop := ∀ i, i < j → l.getD i 0 ≠ x
theorem hasTo_zero (l : List Int) (x : Int) : hasTo l x 0 := fun i hi => by omega
theorem hasTo_next {l : List Int} {x : Int} {j : Nat} (h : hasTo l x j) (hj : ¬ x = l.getD j 0) : hasTo l x (j + 1) := fun i hi => by
  by_cases e : i = j
  · subst e; exact fun e => hj e.symm
  · exact h i (by omega)
theorem hasTo_all {l : List Int} {x : Int} {j : Nat} (h : hasTo l x j) (hj : l.length ≤ j) : ¬ x ∈ l := fun hm => by
  obtain ⟨i, hi, e⟩ := List.mem_iff_getElem.1 hm
  exact h i (by omega) (by rw [List.getD_eq_getElem?_getD, List.getElem?_eq_getElem hi]; exact e)
theorem has_at {l : List Int} {x : Int} {j : Nat} (hj : j < l.length) (h : x = l.getD j 0) : x ∈ l := by
  rw [h, List.getD_eq_getElem?_getD, List.getElem?_eq_getElem hj]; exact List.getElem_mem hj
theorem chain_at {c : DChain} (h : c.ok) {j : Nat} (hj : j < c.bufs.length) : (c.bufs.getD j DImg.zero).ok ∧ (c.bufs.getD j DImg.zero).W = c.scene.W ∧ (c.bufs.getD j DImg.zero).H = c.scene.H ∧ (0 ≤ c.ages.getD j 0 ∧ c.ages.getD j 0 ≤ 3 ∧ c.ages.getD j 0 ≤ c.dams.length + 1) ∧ (c.ages.getD j 0 ≠ 0 → ¬ c.ages.getD j 0 ∈ c.ages.take j) ∧ ∀ i, i < j → c.ages.getD i 0 = c.ages.getD j 0 → c.ages.getD j 0 = 0 := by
  have q := h.2.2.2.2.1 j hj
  refine ⟨q.1, q.2.1, q.2.2.1, q.2.2.2.1, fun hne hm => ?_, q.2.2.2.2⟩
  obtain ⟨i, hi, e⟩ := (take_has (by rw [h.2.2.1]; omega)).1 hm
  exact hne (q.2.2.2.2 i hi e)
theorem bufOk_of {c : DChain} {j : Nat} (h1 : (c.bufs.getD j DImg.zero).ok) (h2 : (c.bufs.getD j DImg.zero).W = c.scene.W) (h3 : (c.bufs.getD j DImg.zero).H = c.scene.H) (h4 : 0 ≤ c.ages.getD j 0 ∧ c.ages.getD j 0 ≤ 3 ∧ c.ages.getD j 0 ≤ c.dams.length + 1) (h5 : ∀ i, i < j → c.ages.getD i 0 = c.ages.getD j 0 → c.ages.getD j 0 = 0) : c.bufOk j := ⟨h1, h2, h3, h4, h5⟩
theorem bufOk_new {c : DChain} {j : Nat} (hj : j ≤ c.ages.length) (h1 : (c.bufs.getD j DImg.zero).ok) (h2 : (c.bufs.getD j DImg.zero).W = c.scene.W) (h3 : (c.bufs.getD j DImg.zero).H = c.scene.H) (h4 : 0 ≤ c.ages.getD j 0 ∧ c.ages.getD j 0 ≤ 3 ∧ c.ages.getD j 0 ≤ c.dams.length + 1) (h5 : c.ages.getD j 0 = 0 ∨ ¬ c.ages.getD j 0 ∈ c.ages.take j) : c.bufOk j :=
  bufOk_of h1 h2 h3 h4 (fun i hi e => by
    rcases h5 with h5 | h5
    · exact h5
    · exact absurd ((take_has hj).2 ⟨i, hi, e⟩) h5)
theorem upto_next {p : Nat → Prop} {j : Nat} (h : ∀ k, k < j → p k) (hj : p j) : ∀ k, k < j + 1 → p k := fun k hk => by
  by_cases e : k = j
  · subst e; exact hj
  · exact h k (by omega)
/-- the first place of a number -/
def fIx (l : List Int) (x : Int) : Nat → Nat → Int
  | 0, _ => -1
  | f + 1, k => if k < l.length then (if l.getD k 0 = x then (k : Int) else fIx l x f (k + 1)) else -1
def firstIx (l : List Int) (x : Int) : Int := fIx l x l.length 0
theorem fIx_skip {l : List Int} {x : Int} : ∀ j, j ≤ l.length → hasTo l x j → firstIx l x = fIx l x (l.length - j) j
  | 0, _, _ => rfl
  | j + 1, hj, h => by
    rw [fIx_skip j (by omega) (fun i hi => h i (by omega)), show l.length - j = (l.length - (j + 1)) + 1 by omega]
    show (if j < l.length then _ else _) = _
    rw [if_pos (by omega), if_neg (h j (by omega))]
theorem firstIx_at {l : List Int} {x : Int} {j : Nat} (hj : j < l.length) (h : hasTo l x j) (e : l.getD j 0 = x) : firstIx l x = j := by
  rw [fIx_skip j (by omega) h, show l.length - j = (l.length - (j + 1)) + 1 by omega]
  show (if j < l.length then _ else _) = _
  rw [if_pos hj, if_pos e]
theorem firstIx_none {l : List Int} {x : Int} (h : hasTo l x l.length) : firstIx l x = -1 := by
  rw [fIx_skip l.length (Nat.le_refl _) h, Nat.sub_self]; rfl
theorem firstIx_mem (l : List Int) (x : Int) : 0 ≤ firstIx l x ↔ x ∈ l := by
  rcases first_or (p := fun i => l.getD i 0 = x) l.length with h | ⟨j, hj, e, h⟩
  · rw [firstIx_none h]
    exact ⟨fun hh => by omega, fun hm => absurd hm (hasTo_all h (Nat.le_refl _))⟩
  · rw [firstIx_at hj h e]
    exact ⟨fun _ => has_at hj e.symm, fun _ => by omega⟩
end Sx
namespace Go.Proofs.Ytakijgpoaeggnaa
open Go Sx
theorem RVs.one' {w : World} {v : Value} {l : List DRect} (h : RRects w v l) : v.oneCell' = true := RRects.one h
attribute [local irreducible] Exit.then Exit.inBlock bodyPost OVs OInts
theorem c_sindex (v : Value) (l : List Int) (x : Int) (W : World) (hv : RInts W v l) : SYields Try.prog 177 #[v, .int .i64 x] (.int .i64 (firstIx l x)) W := by
  have hk := hv.len
  (first | apply SYields.mk | apply SYieldsF.mk | skip); refine s_enter Try.func177 rfl Try.ntmps177 rfl ?_
  repeat' (first | exact rfl | (apply kO; (first | exact ov_pure rfl | (apply kOBin; (first | exact aBin)) | (apply kOCall; (first | (apply kCallB; (first | exact aBlt | exact (ov_lenR (fun w hw => hv.keep (hw.cells rfl)) rfl) | exact aLenR)))) | (apply kOLoad; (first | exact (ov_ldR0 (fun w hw => hv.keep (hw.cells rfl)) rfl rfl (by omega) rfl) | exact aLdF | exact aLdR)) | exact ov_fieldAddr rfl | (apply kOIdx; (first | exact (ov_idxR (fun w hw => hv.keep (hw.cells rfl)) rfl rfl (by omega)) | exact aIdx)) | exact aRest | exact aNew | exact (ov_field1 (ft := 37) rfl rfl rfl rfl))) | (refine kN ?_; (first | (refine kStore ?_; (first | refine s_store1 _ rfl rfl gpA rfl (by rfl) ?_ | refine s_storeS _ rfl rfl gpA rfl rfl (by rfl) ?_ | refine s_storeS _ rfl rfl gpA rfl (ones_img oiA) (by rfl) ?_)) | refine s_boxS rfl rfl (fun b hb => ?_) | refine s_allocS rfl (fun b hb => ?_) | refine s_box1 rfl rfl rfl (fun b hb => ?_) | refine s_alloc1 rfl rfl (fun b hb => ?_) | refine s_buildSlice0 rfl (fun b hb => ?_) | refine s_buildSlice rfl rfl rfl rfl rfl (fun b hb => ?_) | apply s_step)) | (refine kG ?_; (first | refine s_gyes rfl rfl rfl ?_ | refine s_gno rfl rfl rfl rfl rfl ?_ | ((first | refine s_split_d rfl rfl (fun h => ?_) (fun h => ?_) | refine s_split_n rfl rfl (fun h => ?_) (fun h => ?_)) <;> (try (first | contradiction | (exfalso; omega)))) | refine s_split_nb rfl rfl (fun h => ?_) (fun h => ?_) | refine s_split rfl rfl (fun h => ?_) (fun h => ?_))) | refine l_then ?_ | (refine kC ?_; (first | (refine c_loopV (ι := Nat) (fun j => j ≤ l.length ∧ hasTo l x j) (fun j => [(8, .int .i64 (j : Int))]) (fun _ => []) (fun j => l.length - j) 0 ⟨by omega, hasTo_zero _ _⟩ rfl (fun _ => rfl) ⟨rfl, trivial⟩ (fun w hw => hw) (fun j hj => ?_)) | refine c_seq ?_ | refine c_regionN rfl ?_ | refine c_ret ?_ | (refine kCond ?_; (first | refine c_cond_t rfl ?_ | refine c_cond_f rfl ?_ | ((first | refine c_cond_d rfl (fun h => ?_) (fun h => ?_) | refine c_cond_n rfl (fun h => ?_) (fun h => ?_)) <;> (try (first | contradiction | (exfalso; omega)))) | refine c_cond_nb rfl (fun h => ?_) (fun h => ?_) | refine c_cond rfl (fun h => ?_) (fun h => ?_))) | refine c_block ?_ | refine c_skip ?_ | refine c_exit ?_ | refine c_regionQN rfl rfl (by decide +kernel) ?_)) | apply s_stepQ | (refine kQG ?_; (first | refine s_gyesQ rfl rfl rfl ?_ | refine s_gnoQ rfl rfl rfl rfl rfl ?_ | ((first | refine s_splitQ_d rfl rfl (fun h => ?_) (fun h => ?_) | refine s_splitQ_n rfl rfl (fun h => ?_) (fun h => ?_)) <;> (try (first | contradiction | (exfalso; omega)))) | refine s_splitQ_nb rfl rfl (fun h => ?_) (fun h => ?_) | refine s_splitQ rfl rfl (fun h => ?_) (fun h => ?_))) | refine lQ_then ?_ | refine lQ_ends ?_ | (refine kE ?_; (first | refine e_then_r ?_ | refine e_block_r ?_ | refine e_then_n ?_ | refine e_then_x ?_ | refine e_block_n ?_ | refine e_block_x ?_ | refine e_block_y rfl ?_)) | refine l_ends ?_)
  all_goals try simp only [Int.toNat_natCast] at *
  · have e : x = l.getD j 0 := by assumption
    exact s_leave1 rfl rfl (fun w hw => ⟨ret_int (firstIx_at (by omega) hj.2 e.symm).symm, hw.below⟩)
  · exact e_round (j + 1) ⟨by omega, hasTo_next hj.2 (by assumption)⟩ ⟨rfl, (by repeat' first | exact trivial | refine ⟨rfl, ?_⟩)⟩ (fun w hw => hw) (by omega)
  · obtain rfl : j = l.length := by omega
    exact s_leave1 rfl rfl (fun w hw => ⟨ret_int (firstIx_none hj.2).symm, hw.below⟩)
theorem c_contains (v : Value) (l : List Int) (x : Int) (W : World) (hv : RInts W v l) : SYields Try.prog 124 #[v, .int .i64 x] (.bool (decide (x ∈ l))) W := by
  (first | apply SYields.mk | apply SYieldsF.mk | skip); refine s_enter Try.func124 rfl Try.ntmps124 rfl ?_
  repeat' (first | exact rfl | (apply kO; (first | exact ov_pure rfl | (apply kOBin; (first | exact aBin)) | (apply kOCall; (first | (apply kCallF; (first | exact (ov_call rfl (fun w hw => c_sindex _ l _ w (hv.keep (hw.cells rfl)))))) | (apply kCallB; (first | exact aBlt | exact aLenR)))) | (apply kOLoad; (first | exact aLdF | exact aLdR)) | exact ov_fieldAddr rfl | (apply kOIdx; (first | exact aIdx)) | exact aRest | exact aNew | exact (ov_field1 (ft := 37) rfl rfl rfl rfl))) | (refine kN ?_; (first | (refine kStore ?_; (first | refine s_store1 _ rfl rfl gpA rfl (by rfl) ?_ | refine s_storeS _ rfl rfl gpA rfl rfl (by rfl) ?_ | refine s_storeS _ rfl rfl gpA rfl (ones_img oiA) (by rfl) ?_)) | refine s_boxS rfl rfl (fun b hb => ?_) | refine s_allocS rfl (fun b hb => ?_) | refine s_box1 rfl rfl rfl (fun b hb => ?_) | refine s_alloc1 rfl rfl (fun b hb => ?_) | refine s_buildSlice0 rfl (fun b hb => ?_) | refine s_buildSlice rfl rfl rfl rfl rfl (fun b hb => ?_) | apply s_step)) | (refine kG ?_; (first | refine s_gyes rfl rfl rfl ?_ | refine s_gno rfl rfl rfl rfl rfl ?_ | ((first | refine s_split_d rfl rfl (fun h => ?_) (fun h => ?_) | refine s_split_n rfl rfl (fun h => ?_) (fun h => ?_)) <;> (try (first | contradiction | (exfalso; omega)))) | refine s_split_nb rfl rfl (fun h => ?_) (fun h => ?_) | refine s_split rfl rfl (fun h => ?_) (fun h => ?_))) | refine l_then ?_ | (refine kC ?_; (first | refine c_seq ?_ | refine c_regionN rfl ?_ | refine c_ret ?_ | (refine kCond ?_; (first | refine c_cond_t rfl ?_ | refine c_cond_f rfl ?_ | ((first | refine c_cond_d rfl (fun h => ?_) (fun h => ?_) | refine c_cond_n rfl (fun h => ?_) (fun h => ?_)) <;> (try (first | contradiction | (exfalso; omega)))) | refine c_cond_nb rfl (fun h => ?_) (fun h => ?_) | refine c_cond rfl (fun h => ?_) (fun h => ?_))) | refine c_block ?_ | refine c_skip ?_ | refine c_exit ?_ | refine c_regionQN rfl rfl (by decide +kernel) ?_)) | apply s_stepQ | (refine kQG ?_; (first | refine s_gyesQ rfl rfl rfl ?_ | refine s_gnoQ rfl rfl rfl rfl rfl ?_ | ((first | refine s_splitQ_d rfl rfl (fun h => ?_) (fun h => ?_) | refine s_splitQ_n rfl rfl (fun h => ?_) (fun h => ?_)) <;> (try (first | contradiction | (exfalso; omega)))) | refine s_splitQ_nb rfl rfl (fun h => ?_) (fun h => ?_) | refine s_splitQ rfl rfl (fun h => ?_) (fun h => ?_))) | refine lQ_then ?_ | refine lQ_ends ?_ | (refine kE ?_; (first | refine e_then_r ?_ | refine e_block_r ?_ | refine e_then_n ?_ | refine e_then_x ?_ | refine e_block_n ?_ | refine e_block_x ?_ | refine e_block_y rfl ?_)) | refine l_ends ?_)
  all_goals refine s_leave1 rfl rfl (fun w hw => ⟨?_, hw.below⟩)
  all_goals exact ret_dec (firstIx_mem l x)
set_option maxHeartbeats 4000000 in
theorem c_ichainOk (c : DChain) (vb va vd vs : Value) (W : World) (hc : RCh W c vb va vd vs) : SYields Try.prog 52 #[vChain c vb va vd vs] (.bool (decide c.ok)) W := by
  obtain ⟨r1, r2, r3, r4⟩ := hc
  obtain ⟨db, r1⟩ := r1
  obtain ⟨dd, r3⟩ := r3
  have f1 := r1.form
  obtain ⟨b1, b2, rfl⟩ := f1
  have f2 := r2.form
  obtain ⟨a1, a2, rfl⟩ := f2
  have f3 := r3.form
  obtain ⟨d1, d2, rfl⟩ := f3
  have hbl := r1.row.len
  have hal := r2.len
  have hdl := r3.row.len
  have hra : c.ages.length ≤ a2 := RRow.room r2
  have hrow := fun (i : Nat) (hi : i ≤ c.ages.length) => (show RInts W (.slice a1 i a2) (c.ages.take i) from (rrow_hi r2 hi).congr (by rw [List.length_take]; omega) (fun k hk => by simp [List.getD_eq_getElem?_getD, hk]))
  (first | apply SYields.mk | apply SYieldsF.mk | skip); refine s_enter Try.func52 rfl Try.ntmps52 rfl ?_
  repeat' (first | exact rfl | (apply kO; (first | exact ov_pure rfl | (apply kOBin; (first | exact aBin)) | (apply kOCall; (first | (apply kCallF; (first | exact (ov_call rfl (fun w hw => c_isceneOk c.scene _ w (r4.keep (hw.cells rfl)))) | exact (ov_call rfl (fun w hw => c_within _ _ _ w)) | exact (ov_call rfl (fun w hw => c_iimageOk (c.bufs.getD j DImg.zero) _ w (RInts.keep (r1.rd _ (by omega)) (hw.cells rfl)))) | exact (ov_call rfl (fun w hw => c_iregionOk _ (c.dams.getD i []) w (eReg.keep (r3.rd _ (by omega)) (hw.cells rfl)))) | exact (ov_call rfl (fun w hw => c_contains _ (c.ages.take j) _ w ((hrow j (by omega)).keep (hw.cells rfl)))))) | (apply kCallB; (first | exact aBlt | exact (ov_lenR (fun w hw => r1.row.keep (hw.cells rfl)) rfl) | exact aLenR)))) | (apply kOLoad; (first | exact (ov_ldRZ (fun w hw => r1.row.keep (hw.cells rfl)) rfl rfl (by omega) rfl) | exact (ov_ldR0 (fun w hw => r2.keep (hw.cells rfl)) rfl rfl (by omega) rfl) | exact (ov_ldRZ (fun w hw => r3.row.keep (hw.cells rfl)) rfl rfl (by omega) rfl) | exact aLdF | exact aLdR)) | exact ov_fieldAddr rfl | (apply kOIdx; (first | exact (ov_idxR (fun w hw => r1.row.keep (hw.cells rfl)) rfl rfl (by omega)) | exact (ov_idxR (fun w hw => r2.keep (hw.cells rfl)) rfl rfl (by omega)) | exact (ov_idxR (fun w hw => r3.row.keep (hw.cells rfl)) rfl rfl (by omega)) | exact aIdx)) | exact aRest | (apply kSlice; exact (ov_sliceHi rfl rfl (by omega))) | exact aNew | exact (ov_field1 (ft := 37) rfl rfl rfl rfl))) | (refine kN ?_; (first | (refine kStore ?_; (first | (refine s_storeS _ rfl rfl gpA rfl (eImg_ones (RInts.one (r1.rd _ (by omega)))) (by rfl) ?_) | (refine s_storeS _ rfl rfl gpA rfl (eReg_ones (RVs.one' (r3.rd _ (by omega)))) (by rfl) ?_) | refine s_store1 _ rfl rfl gpA rfl (by rfl) ?_ | refine s_storeS _ rfl rfl gpA rfl rfl (by rfl) ?_ | refine s_storeS _ rfl rfl gpA rfl (ones_img oiA) (by rfl) ?_)) | refine s_boxS rfl rfl (fun b hb => ?_) | refine s_allocS rfl (fun b hb => ?_) | refine s_box1 rfl rfl rfl (fun b hb => ?_) | refine s_alloc1 rfl rfl (fun b hb => ?_) | refine s_buildSlice0 rfl (fun b hb => ?_) | refine s_buildSlice rfl rfl rfl rfl rfl (fun b hb => ?_) | apply s_step)) | (refine kG ?_; (first | refine s_gyes rfl rfl rfl ?_ | refine s_gno rfl rfl rfl rfl rfl ?_ | ((first | refine s_split_d rfl rfl (fun h => ?_) (fun h => ?_) | refine s_split_n rfl rfl (fun h => ?_) (fun h => ?_)) <;> (try (first | contradiction | (exfalso; omega)))) | refine s_split_nb rfl rfl (fun h => ?_) (fun h => ?_) | refine s_split rfl rfl (fun h => ?_) (fun h => ?_))) | refine l_then ?_ | (refine kC ?_; (first | (refine kLoopR 4 ?_; refine c_loopV (ι := Nat) (fun j => j ≤ c.bufs.length ∧ ∀ k, k < j → c.bufOk k) (fun j => [(37, .int .i64 (j : Int))]) (fun j => [_]) (fun j => c.bufs.length - j) 0 ⟨by omega, fun k hk => by omega⟩ rfl (fun _ => rfl) ⟨rfl, trivial⟩ (fun w hw => hw) (fun j hj => ?_)) | (refine kLoopR 13 ?_; refine c_loopV (ι := Nat) (fun i => i ≤ c.dams.length ∧ ∀ k, k < i → regionOk (c.dam k)) (fun i => [(90, .int .i64 (i : Int))]) (fun i => [_]) (fun i => c.dams.length - i) 0 ⟨by omega, fun k hk => by omega⟩ rfl (fun _ => rfl) ⟨rfl, trivial⟩ (fun w hw => hw) (fun i hi => ?_)) | refine c_seq ?_ | refine c_regionN rfl ?_ | refine c_ret ?_ | (refine kCond ?_; (first | refine c_cond_t rfl ?_ | refine c_cond_f rfl ?_ | ((first | refine c_cond_d rfl (fun h => ?_) (fun h => ?_) | refine c_cond_n rfl (fun h => ?_) (fun h => ?_)) <;> (try (first | contradiction | (exfalso; omega)))) | refine c_cond_nb rfl (fun h => ?_) (fun h => ?_) | refine c_cond rfl (fun h => ?_) (fun h => ?_))) | refine c_block ?_ | refine c_skip ?_ | refine c_exit ?_ | refine c_regionQN rfl rfl (by decide +kernel) ?_)) | apply s_stepQ | (refine kQG ?_; (first | refine s_gyesQ rfl rfl rfl ?_ | refine s_gnoQ rfl rfl rfl rfl rfl ?_ | ((first | refine s_splitQ_d rfl rfl (fun h => ?_) (fun h => ?_) | refine s_splitQ_n rfl rfl (fun h => ?_) (fun h => ?_)) <;> (try (first | contradiction | (exfalso; omega)))) | refine s_splitQ_nb rfl rfl (fun h => ?_) (fun h => ?_) | refine s_splitQ rfl rfl (fun h => ?_) (fun h => ?_))) | refine lQ_then ?_ | refine lQ_ends ?_ | (refine kE ?_; (first | refine e_then_r ?_ | refine e_block_r ?_ | refine e_then_n ?_ | refine e_then_x ?_ | refine e_block_n ?_ | refine e_block_x ?_ | refine e_block_y rfl ?_)) | refine l_ends ?_)
  all_goals try simp only [Int.toNat_natCast, eImg_dflt, eReg_dflt] at *
  all_goals first
    | (refine s_leave1 rfl rfl (fun w hw => ⟨ret_false (fun hh => ?_), hw.below⟩)
       first
         | exact absurd hh.1 (by assumption)
         | exact absurd hh.2.1 (by omega)
         | exact absurd hh.2.2.1 (by omega)
         | exact absurd hh.2.2.2.1 (by omega)
         | exact absurd (chain_at hh (j := j) (by omega)).1 (by assumption)
         | exact absurd (chain_at hh (j := j) (by omega)).2.1 (by assumption)
         | exact absurd (chain_at hh (j := j) (by omega)).2.2.1 (by assumption)
         | (have q := (chain_at hh (j := j) (by omega)).2.2.2.1; omega)
         | exact absurd (by assumption) ((chain_at hh (j := j) (by omega)).2.2.2.2.1 (by assumption))
         | exact absurd (hh.2.2.2.2.2 i (by omega)) (by assumption))
    | exact e_round (j + 1) ⟨by omega, upto_next hj.2 (bufOk_new (by omega) (by assumption) (by omega) (by omega) (by omega) (by first | exact .inl (by omega) | exact .inr (by assumption)))⟩ ⟨rfl, (by repeat' first | exact trivial | refine ⟨rfl, ?_⟩)⟩ (fun w hw => hw.sub (selO_sub [false, true] _ _ rfl)) (by omega)
    | exact e_round (i + 1) ⟨by omega, upto_next hi.2 (by assumption)⟩ ⟨rfl, (by repeat' first | exact trivial | refine ⟨rfl, ?_⟩)⟩ (fun w hw => hw.sub (selO_sub [false, true] _ _ rfl)) (by omega)
    | exact s_leave1 rfl rfl (fun w hw => ⟨ret_true ⟨by assumption, by omega, by omega, by omega, fun k hk => hj.2 k (by omega), fun k hk => hi.2 k (by omega)⟩, hw.below⟩)
end Go.Proofs.Ytakijgpoaeggnaa
/-
  Contracts: is a chain of buffers in order, by the reference; which buffer is next, by both.
-/
set_option linter.unusedVariables false
namespace Sx
/-- from number k on, with this one found so far -/
def nbInv (c : DChain) (k best : Nat) : Prop := best < c.ages.length ∧ nextB c = nbFrom c.ages (c.ages.length - k) best k
theorem nb_start {c : DChain} (h : 0 < c.ages.length) : nbInv c 0 0 := ⟨h, rfl⟩
theorem nb_zero {c : DChain} {k best : Nat} (h : nbInv c k best) (hk : k < c.ages.length) (e : c.ages.getD k 0 = 0) : nextB c = k := by
  rw [h.2, show c.ages.length - k = (c.ages.length - (k + 1)) + 1 by omega]
  unfold nbFrom
  rw [if_pos hk, if_pos e]
theorem nb_more {c : DChain} {k best : Nat} (h : nbInv c k best) (hk : k < c.ages.length) (e : ¬ c.ages.getD k 0 = 0) (e2 : c.ages.getD best 0 < c.ages.getD k 0) : nbInv c (k + 1) k := by
  refine ⟨hk, ?_⟩
  rw [h.2, show c.ages.length - k = (c.ages.length - (k + 1)) + 1 by omega]
  conv => lhs; unfold nbFrom
  rw [if_pos hk, if_neg e, if_pos e2]
theorem nb_same {c : DChain} {k best : Nat} (h : nbInv c k best) (hk : k < c.ages.length) (e : ¬ c.ages.getD k 0 = 0) (e2 : ¬ c.ages.getD best 0 < c.ages.getD k 0) : nbInv c (k + 1) best := by
  refine ⟨h.1, ?_⟩
  rw [h.2, show c.ages.length - k = (c.ages.length - (k + 1)) + 1 by omega]
  conv => lhs; unfold nbFrom
  rw [if_pos hk, if_neg e, if_neg e2]
theorem nb_end {c : DChain} {k best : Nat} (h : nbInv c k best) (hk : c.ages.length ≤ k) : nextB c = best := by
  rw [h.2, show c.ages.length - k = 0 by omega]; rfl
theorem nb_first {c : DChain} (hk : 0 < c.ages.length) (e : ¬ c.ages.getD 0 0 = 0) : nbInv c 1 0 := nb_same (nb_start hk) hk e (by omega)
end Sx
namespace Go.Proofs.Ytakijgpoaeggnaa
open Go Sx
attribute [local irreducible] Exit.then Exit.inBlock bodyPost OVs OInts
set_option maxHeartbeats 2000000 in
theorem c_inextBuffer (c : DChain) (vb va vd vs : Value) (W : World) (hc : RCh W c vb va vd vs) : SYields Try.prog 55 #[vChain c vb va vd vs] (.int .i64 (nextBuffer c)) W := by
  have hcc := hc
  obtain ⟨r1, r2, r3, r4⟩ := hc
  have hal := r2.len
  by_cases hok : c.ok
  · have hn : nextBuffer c = (nextB c : Int) := by unfold nextBuffer; rw [if_pos hok]
    have hla : 0 < c.ages.length := by rw [hok.2.2.1]; exact hok.2.1.1
    rw [hn]
    (first | apply SYields.mk | apply SYieldsF.mk | skip); refine s_enter Try.func55 rfl Try.ntmps55 rfl ?_
    repeat' (first | exact rfl | (apply kO; (first | exact ov_pure rfl | (apply kOBin; (first | exact aBin)) | (apply kOCall; (first | (apply kCallF; (first | exact (ov_call rfl (fun w hw => c_ichainOk c _ _ _ _ w (hcc.keep (hw.cells rfl)))))) | (apply kCallB; (first | exact aBlt | exact (ov_lenR (fun w hw => r2.keep (hw.cells rfl)) rfl) | exact aLenR)))) | (apply kOLoad; (first | exact (ov_ldR0 (fun w hw => r2.keep (hw.cells rfl)) rfl rfl (by omega) rfl) | exact (ov_ldR0 (fun w hw => r2.keep (hw.cells rfl)) rfl rfl (by have := hj2.1; omega) rfl) | exact aLdF | exact aLdR)) | exact ov_fieldAddr rfl | (apply kOIdx; (first | exact (ov_idxR (fun w hw => r2.keep (hw.cells rfl)) rfl rfl (by omega)) | exact (ov_idxR (fun w hw => r2.keep (hw.cells rfl)) rfl rfl (by have := hj2.1; omega)) | exact aIdx)) | exact aRest | exact aNew | exact (ov_field1 (ft := 37) rfl rfl rfl rfl))) | (refine kN ?_; (first | (refine kStore ?_; (first | refine s_store1 _ rfl rfl gpA rfl (by rfl) ?_ | refine s_storeS _ rfl rfl gpA rfl rfl (by rfl) ?_ | refine s_storeS _ rfl rfl gpA rfl (ones_img oiA) (by rfl) ?_)) | refine s_boxS rfl rfl (fun b hb => ?_) | refine s_allocS rfl (fun b hb => ?_) | refine s_box1 rfl rfl rfl (fun b hb => ?_) | refine s_alloc1 rfl rfl (fun b hb => ?_) | refine s_buildSlice0 rfl (fun b hb => ?_) | refine s_buildSlice rfl rfl rfl rfl rfl (fun b hb => ?_) | apply s_step)) | (refine kG ?_; (first | refine s_gyes rfl rfl rfl ?_ | refine s_gno rfl rfl rfl rfl rfl ?_ | ((first | refine s_split_d rfl rfl (fun h => ?_) (fun h => ?_) | refine s_split_n rfl rfl (fun h => ?_) (fun h => ?_)) <;> (try (first | contradiction | (exfalso; omega) | (exfalso; exact absurd hok (by assumption))))) | refine s_split_nb rfl rfl (fun h => ?_) (fun h => ?_) | refine s_split rfl rfl (fun h => ?_) (fun h => ?_))) | refine l_then ?_ | (refine kC ?_; (first | (refine kLoopR 5 ?_; refine c_loopV (ι := Nat × Nat) (fun j => j.1 ≤ c.ages.length ∧ nbInv c j.1 j.2) (fun j => [(3, .int .i64 (j.2 : Int)), (12, .int .i64 (j.1 : Int))]) (fun j => [_]) (fun j => c.ages.length - j.1) (0, 0) ⟨by dsimp only; omega, nb_start hla⟩ rfl (fun _ => rfl) ⟨rfl, rfl, trivial⟩ (fun w hw => hw) (fun j hj => ?_); obtain ⟨hj1, hj2⟩ := hj) | refine c_seq ?_ | refine c_regionN rfl ?_ | refine c_ret ?_ | (refine kCond ?_; (first | refine c_cond_t rfl ?_ | refine c_cond_f rfl ?_ | ((first | refine c_cond_d rfl (fun h => ?_) (fun h => ?_) | refine c_cond_n rfl (fun h => ?_) (fun h => ?_)) <;> (try (first | contradiction | (exfalso; omega) | (exfalso; exact absurd hok (by assumption))))) | refine c_cond_nb rfl (fun h => ?_) (fun h => ?_) | refine c_cond rfl (fun h => ?_) (fun h => ?_))) | refine c_block ?_ | refine c_skip ?_ | refine c_exit ?_ | refine c_regionQN rfl rfl (by decide +kernel) ?_)) | apply s_stepQ | (refine kQG ?_; (first | refine s_gyesQ rfl rfl rfl ?_ | refine s_gnoQ rfl rfl rfl rfl rfl ?_ | ((first | refine s_splitQ_d rfl rfl (fun h => ?_) (fun h => ?_) | refine s_splitQ_n rfl rfl (fun h => ?_) (fun h => ?_)) <;> (try (first | contradiction | (exfalso; omega) | (exfalso; exact absurd hok (by assumption))))) | refine s_splitQ_nb rfl rfl (fun h => ?_) (fun h => ?_) | refine s_splitQ rfl rfl (fun h => ?_) (fun h => ?_))) | refine lQ_then ?_ | refine lQ_ends ?_ | (refine kE ?_; (first | refine e_then_r ?_ | refine e_block_r ?_ | refine e_then_n ?_ | refine e_then_x ?_ | refine e_block_n ?_ | refine e_block_x ?_ | refine e_block_y rfl ?_)) | refine l_ends ?_)
    all_goals try simp only [Int.toNat_natCast] at *
    · exact s_leave1 rfl rfl (fun w hw => ⟨ret_int (by rw [nb_zero hj2 (by omega) (by assumption)]), hw.below⟩)
    · exact e_round (j.1 + 1, j.1) ⟨by dsimp only; omega, nb_more hj2 (by omega) (by assumption) (by assumption)⟩ ⟨rfl, slook_to rfl (vint_to (by push_cast; rfl)), (by repeat' first | exact trivial | refine ⟨rfl, ?_⟩)⟩ (fun w hw => hw) (by dsimp only; omega)
    · exact e_round (j.1 + 1, j.2) ⟨by dsimp only; omega, nb_same hj2 (by omega) (by assumption) (by assumption)⟩ ⟨rfl, slook_to rfl (vint_to (by push_cast; rfl)), (by repeat' first | exact trivial | refine ⟨rfl, ?_⟩)⟩ (fun w hw => hw) (by dsimp only; omega)
    · exact s_leave1 rfl rfl (fun w hw => ⟨ret_int (by rw [nb_end hj2 (by omega)]), hw.below⟩)
  · have hn : nextBuffer c = -1 := by unfold nextBuffer; rw [if_neg hok]
    rw [hn]
    (first | apply SYields.mk | apply SYieldsF.mk | skip); refine s_enter Try.func55 rfl Try.ntmps55 rfl ?_
    repeat' (first | exact rfl | (apply kO; (first | exact ov_pure rfl | (apply kOBin; (first | exact aBin)) | (apply kOCall; (first | (apply kCallF; (first | exact (ov_call rfl (fun w hw => c_ichainOk c _ _ _ _ w (hcc.keep (hw.cells rfl)))))) | (apply kCallB; (first | exact aBlt | exact aLenR)))) | (apply kOLoad; (first | exact aLdF | exact aLdR)) | exact ov_fieldAddr rfl | (apply kOIdx; (first | exact aIdx)) | exact aRest | exact aNew | exact (ov_field1 (ft := 37) rfl rfl rfl rfl))) | (refine kN ?_; (first | (refine kStore ?_; (first | refine s_store1 _ rfl rfl gpA rfl (by rfl) ?_ | refine s_storeS _ rfl rfl gpA rfl rfl (by rfl) ?_ | refine s_storeS _ rfl rfl gpA rfl (ones_img oiA) (by rfl) ?_)) | refine s_boxS rfl rfl (fun b hb => ?_) | refine s_allocS rfl (fun b hb => ?_) | refine s_box1 rfl rfl rfl (fun b hb => ?_) | refine s_alloc1 rfl rfl (fun b hb => ?_) | refine s_buildSlice0 rfl (fun b hb => ?_) | refine s_buildSlice rfl rfl rfl rfl rfl (fun b hb => ?_) | apply s_step)) | (refine kG ?_; (first | refine s_gyes rfl rfl rfl ?_ | refine s_gno rfl rfl rfl rfl rfl ?_ | ((first | refine s_split_d rfl rfl (fun h => ?_) (fun h => ?_) | refine s_split_n rfl rfl (fun h => ?_) (fun h => ?_)) <;> (try (first | contradiction | (exfalso; omega) | (exfalso; exact absurd (by assumption) hok)))) | refine s_split_nb rfl rfl (fun h => ?_) (fun h => ?_) | refine s_split rfl rfl (fun h => ?_) (fun h => ?_))) | refine l_then ?_ | (refine kC ?_; (first | refine c_seq ?_ | refine c_regionN rfl ?_ | refine c_ret ?_ | (refine kCond ?_; (first | refine c_cond_t rfl ?_ | refine c_cond_f rfl ?_ | ((first | refine c_cond_d rfl (fun h => ?_) (fun h => ?_) | refine c_cond_n rfl (fun h => ?_) (fun h => ?_)) <;> (try (first | contradiction | (exfalso; omega) | (exfalso; exact absurd (by assumption) hok)))) | refine c_cond_nb rfl (fun h => ?_) (fun h => ?_) | refine c_cond rfl (fun h => ?_) (fun h => ?_))) | refine c_block ?_ | refine c_skip ?_ | refine c_exit ?_ | refine c_regionQN rfl rfl (by decide +kernel) ?_)) | apply s_stepQ | (refine kQG ?_; (first | refine s_gyesQ rfl rfl rfl ?_ | refine s_gnoQ rfl rfl rfl rfl rfl ?_ | ((first | refine s_splitQ_d rfl rfl (fun h => ?_) (fun h => ?_) | refine s_splitQ_n rfl rfl (fun h => ?_) (fun h => ?_)) <;> (try (first | contradiction | (exfalso; omega) | (exfalso; exact absurd (by assumption) hok)))) | refine s_splitQ_nb rfl rfl (fun h => ?_) (fun h => ?_) | refine s_splitQ rfl rfl (fun h => ?_) (fun h => ?_))) | refine lQ_then ?_ | refine lQ_ends ?_ | (refine kE ?_; (first | refine e_then_r ?_ | refine e_block_r ?_ | refine e_then_n ?_ | refine e_then_x ?_ | refine e_block_n ?_ | refine e_block_x ?_ | refine e_block_y rfl ?_)) | refine l_ends ?_)
    all_goals exact s_leave1 rfl rfl (fun w hw => ⟨rfl, hw.below⟩)
set_option maxRecDepth 100000 in
set_option maxHeartbeats 4000000 in
theorem c_schainOk (c : DChain) (vb va vd vs : Value) (W : World) (hc : RCh W c vb va vd vs) : SYields Try.prog 50 #[vChain c vb va vd vs] (.bool (decide c.ok)) W := by
  obtain ⟨r1, r2, r3, r4⟩ := hc
  obtain ⟨db, r1⟩ := r1
  obtain ⟨dd, r3⟩ := r3
  have hbl := r1.row.len
  have hal := r2.len
  have hdl := r3.row.len
  (first | apply SYields.mk | apply SYieldsF.mk | skip); refine s_enter Try.func50 rfl Try.ntmps50 rfl ?_
  repeat' (first | exact rfl | (apply kO; (first | exact ov_pure rfl | (apply kOBin; (first | exact aBin)) | (apply kOCall; (first | (apply kCallF; (first | exact (ov_call rfl (fun w hw => c_ssceneOk c.scene _ w (r4.keep (hw.cells rfl)))) | exact (ov_call rfl (fun w hw => c_l01In _ _ _ w)) | exact (ov_call rfl (fun w hw => c_simageOk (c.bufs.getD j DImg.zero) _ w (RInts.keep (r1.rd _ (by omega)) (hw.cells rfl)))) | exact (ov_call rfl (fun w hw => c_sregionOk _ (c.dams.getD i []) w (eReg.keep (r3.rd _ (by omega)) (hw.cells rfl)))))) | (apply kCallB; (first | exact aBlt | exact (ov_lenR (fun w hw => r1.row.keep (hw.cells rfl)) rfl) | exact (ov_lenR (fun w hw => r2.keep (hw.cells rfl)) rfl) | exact (ov_lenR (fun w hw => r3.row.keep (hw.cells rfl)) rfl) | exact aLenR)))) | (apply kOLoad; (first | exact (ov_ldR (fun w hw => r1.row.keep (hw.cells rfl)) rfl rfl (by omega) rfl) | exact (ov_ldRZ (fun w hw => r1.row.keep (hw.cells rfl)) rfl rfl (by omega) rfl) | exact (ov_ldR0 (fun w hw => r2.keep (hw.cells rfl)) rfl rfl (by omega) rfl) | exact (ov_ldRZ (fun w hw => r3.row.keep (hw.cells rfl)) rfl rfl (by omega) rfl) | exact aLdF | exact aLdR)) | exact ov_fieldAddr rfl | (apply kOIdx; (first | exact (ov_idxR (fun w hw => r1.row.keep (hw.cells rfl)) rfl rfl (by omega)) | exact (ov_idxR (fun w hw => r2.keep (hw.cells rfl)) rfl rfl (by omega)) | exact (ov_idxR (fun w hw => r3.row.keep (hw.cells rfl)) rfl rfl (by omega)) | exact aIdx)) | exact aRest | exact aNew | exact (ov_field1 (ft := 37) rfl rfl rfl rfl))) | (refine kN ?_; (first | (refine kStore ?_; (first | refine s_store1 _ rfl rfl gpA rfl (by rfl) ?_ | refine s_storeS _ rfl rfl gpA rfl rfl (by rfl) ?_ | refine s_storeS _ rfl rfl gpA rfl (ones_img oiA) (by rfl) ?_)) | refine s_boxS rfl rfl (fun b hb => ?_) | refine s_allocS rfl (fun b hb => ?_) | refine s_box1 rfl rfl rfl (fun b hb => ?_) | refine s_alloc1 rfl rfl (fun b hb => ?_) | refine s_buildSlice0 rfl (fun b hb => ?_) | refine s_buildSlice rfl rfl rfl rfl rfl (fun b hb => ?_) | apply s_step)) | (refine kG ?_; (first | refine s_gyes rfl rfl rfl ?_ | refine s_gno rfl rfl rfl rfl rfl ?_ | ((first | refine s_split_d rfl rfl (fun h => ?_) (fun h => ?_) | refine s_split_n rfl rfl (fun h => ?_) (fun h => ?_)) <;> (try (first | contradiction | (exfalso; omega)))) | refine s_split_nb rfl rfl (fun h => ?_) (fun h => ?_) | refine s_split rfl rfl (fun h => ?_) (fun h => ?_))) | refine l_then ?_ | (refine kC ?_; (first | (refine kLoop 4 ?_; refine c_loopV (ι := Nat) (fun j => j ≤ c.bufs.length ∧ ∀ k, k < j → c.bufOk k) (fun j => [(3, .int .i64 (j : Int))]) (fun j => [_]) (fun j => c.bufs.length - j) 0 ⟨by omega, fun k hk => by omega⟩ rfl (fun _ => rfl) ⟨rfl, trivial⟩ (fun w hw => hw) (fun j hj => ?_)) | (refine kLoop 9 ?_; refine c_loopV (ι := Nat) (fun q => q ≤ j ∧ ∀ i, i < q → c.ages.getD i 0 = c.ages.getD j 0 → c.ages.getD j 0 = 0) (fun q => [(4, .int .i64 (q : Int))]) (fun q => [_]) (fun q => j - q) 0 ⟨by omega, fun k hk => by omega⟩ rfl (fun _ => rfl) ⟨rfl, trivial⟩ (fun w hw => hw) (fun q hq => ?_)) | (refine kLoop 14 ?_; refine c_loopV (ι := Nat) (fun i => i ≤ c.dams.length ∧ ∀ k, k < i → regionOk (c.dam k)) (fun i => [(5, .int .i64 (i : Int))]) (fun i => [_]) (fun i => c.dams.length - i) 0 ⟨by omega, fun k hk => by omega⟩ rfl (fun _ => rfl) ⟨rfl, trivial⟩ (fun w hw => hw) (fun i hi => ?_)) | refine c_seq ?_ | refine c_regionN rfl ?_ | refine c_ret ?_ | (refine kCond ?_; (first | refine c_cond_t rfl ?_ | refine c_cond_f rfl ?_ | ((first | refine c_cond_d rfl (fun h => ?_) (fun h => ?_) | refine c_cond_n rfl (fun h => ?_) (fun h => ?_)) <;> (try (first | contradiction | (exfalso; omega)))) | refine c_cond_nb rfl (fun h => ?_) (fun h => ?_) | refine c_cond rfl (fun h => ?_) (fun h => ?_))) | refine c_block ?_ | refine c_skip ?_ | refine c_exit ?_ | refine c_regionQN rfl rfl (by decide +kernel) ?_)) | apply s_stepQ | (refine kQG ?_; (first | refine s_gyesQ rfl rfl rfl ?_ | refine s_gnoQ rfl rfl rfl rfl rfl ?_ | ((first | refine s_splitQ_d rfl rfl (fun h => ?_) (fun h => ?_) | refine s_splitQ_n rfl rfl (fun h => ?_) (fun h => ?_)) <;> (try (first | contradiction | (exfalso; omega)))) | refine s_splitQ_nb rfl rfl (fun h => ?_) (fun h => ?_) | refine s_splitQ rfl rfl (fun h => ?_) (fun h => ?_))) | refine lQ_then ?_ | refine lQ_ends ?_ | (refine kE ?_; (first | refine e_then_r ?_ | refine e_block_r ?_ | refine e_then_n ?_ | refine e_then_x ?_ | refine e_block_n ?_ | refine e_block_x ?_ | refine e_block_y rfl ?_)) | refine l_ends ?_)
  all_goals try simp only [Int.toNat_natCast, eImg_dflt, eReg_dflt] at *
  all_goals first
    | (refine s_leave1 rfl rfl (fun w hw => ⟨ret_false (fun hh => ?_), hw.below⟩)
       first
         | exact absurd hh.1 (by assumption)
         | exact absurd hh.2.1 (by omega)
         | exact absurd hh.2.2.1 (by omega)
         | exact absurd hh.2.2.2.1 (by omega)
         | exact absurd (chain_at hh (j := j) (by omega)).1 (by assumption)
         | exact absurd (chain_at hh (j := j) (by omega)).2.1 (by assumption)
         | exact absurd (chain_at hh (j := j) (by omega)).2.2.1 (by assumption)
         | (have q := (chain_at hh (j := j) (by omega)).2.2.2.1; omega)
         | exact absurd ((chain_at hh (j := j) (by omega)).2.2.2.2.2 q (by omega) (by assumption)) (by assumption)
         | exact absurd (hh.2.2.2.2.2 i (by omega)) (by assumption))
    | exact e_round (q + 1) ⟨by omega, upto_next hq.2 (fun e => by first | omega | exact absurd e (by assumption))⟩ ⟨rfl, (by repeat' first | exact trivial | refine ⟨rfl, ?_⟩)⟩ (fun w hw => hw) (by omega)
    | exact e_round (j + 1) ⟨by omega, upto_next hj.2 (bufOk_of (by assumption) (by omega) (by omega) (by omega) (fun i hi => hq.2 i (by omega)))⟩ ⟨rfl, (by repeat' first | exact trivial | refine ⟨rfl, ?_⟩)⟩ (fun w hw => hw) (by omega)
    | exact e_round (i + 1) ⟨by omega, upto_next hi.2 (by assumption)⟩ ⟨rfl, (by repeat' first | exact trivial | refine ⟨rfl, ?_⟩)⟩ (fun w hw => hw) (by omega)
    | exact s_leave1 rfl rfl (fun w hw => ⟨ret_true ⟨by assumption, by omega, by omega, by omega, fun k hk => hj.2 k (by omega), fun k hk => hi.2 k (by omega)⟩, hw.below⟩)
theorem nbb {c : DChain} {k : Nat} {q : Int} (h : (k = 0 ∧ q = -1) ∨ (0 ≤ q ∧ nbInv c k q.toNat)) (hq : ¬ q < 0) : q.toNat < c.ages.length := by
  rcases h with h | h
  · omega
  · exact h.2.1
theorem nbk {c : DChain} {k : Nat} {q : Int} (h : (k = 0 ∧ q = -1) ∨ (0 ≤ q ∧ nbInv c k q.toNat)) (hl : 0 < c.ages.length) : ∃ m, nbInv c k m ∧ (¬ q < 0 → m = q.toNat) ∧ (q < 0 → k = 0 ∧ m = 0) := by
  rcases h with h | h
  · exact ⟨0, by rw [h.1]; exact nb_start hl, fun hh => by omega, fun _ => ⟨h.1, rfl⟩⟩
  · exact ⟨_, h.2, fun _ => rfl, fun hh => by omega⟩
set_option maxHeartbeats 2000000 in
theorem c_snextBuffer (c : DChain) (vb va vd vs : Value) (W : World) (hc : RCh W c vb va vd vs) : SYields Try.prog 54 #[vChain c vb va vd vs] (.int .i64 (nextBuffer c)) W := by
  have hcc := hc
  obtain ⟨r1, r2, r3, r4⟩ := hc
  have hal := r2.len
  by_cases hok : c.ok
  · have hn : nextBuffer c = (nextB c : Int) := by unfold nextBuffer; rw [if_pos hok]
    have hla : 0 < c.ages.length := by rw [hok.2.2.1]; exact hok.2.1.1
    rw [hn]
    (first | apply SYields.mk | apply SYieldsF.mk | skip); refine s_enter Try.func54 rfl Try.ntmps54 rfl ?_
    repeat' (first | exact rfl | (apply kO; (first | exact ov_pure rfl | (apply kOBin; (first | exact aBin)) | (apply kOCall; (first | (apply kCallF; (first | exact (ov_call rfl (fun w hw => c_schainOk c _ _ _ _ w (hcc.keep (hw.cells rfl)))))) | (apply kCallB; (first | exact aBlt | exact (ov_lenR (fun w hw => r2.keep (hw.cells rfl)) rfl) | exact aLenR)))) | (apply kOLoad; (first | exact (ov_ldR0 (fun w hw => r2.keep (hw.cells rfl)) rfl rfl (by omega) rfl) | exact (ov_ldR0 (fun w hw => r2.keep (hw.cells rfl)) rfl rfl (by have := nbb hj2 (by assumption); omega) rfl) | exact aLdF | exact aLdR)) | exact ov_fieldAddr rfl | (apply kOIdx; (first | exact (ov_idxR (fun w hw => r2.keep (hw.cells rfl)) rfl rfl (by omega)) | exact (ov_idxR (fun w hw => r2.keep (hw.cells rfl)) rfl rfl (by have := nbb hj2 (by assumption); omega)) | exact aIdx)) | exact aRest | exact aNew | exact (ov_field1 (ft := 37) rfl rfl rfl rfl))) | (refine kN ?_; (first | (refine kStore ?_; (first | refine s_store1 _ rfl rfl gpA rfl (by rfl) ?_ | refine s_storeS _ rfl rfl gpA rfl rfl (by rfl) ?_ | refine s_storeS _ rfl rfl gpA rfl (ones_img oiA) (by rfl) ?_)) | refine s_boxS rfl rfl (fun b hb => ?_) | refine s_allocS rfl (fun b hb => ?_) | refine s_box1 rfl rfl rfl (fun b hb => ?_) | refine s_alloc1 rfl rfl (fun b hb => ?_) | refine s_buildSlice0 rfl (fun b hb => ?_) | refine s_buildSlice rfl rfl rfl rfl rfl (fun b hb => ?_) | apply s_step)) | (refine kG ?_; (first | refine s_gyes rfl rfl rfl ?_ | refine s_gno rfl rfl rfl rfl rfl ?_ | ((first | refine s_split_d rfl rfl (fun h => ?_) (fun h => ?_) | refine s_split_n rfl rfl (fun h => ?_) (fun h => ?_)) <;> (try (first | contradiction | (exfalso; omega) | (exfalso; exact absurd hok (by assumption))))) | refine s_split_nb rfl rfl (fun h => ?_) (fun h => ?_) | refine s_split rfl rfl (fun h => ?_) (fun h => ?_))) | refine l_then ?_ | (refine kC ?_; (first | (refine kLoop 3 ?_; refine c_loopV (ι := Nat × Int) (fun j => j.1 ≤ c.ages.length ∧ ((j.1 = 0 ∧ j.2 = -1) ∨ (0 ≤ j.2 ∧ nbInv c j.1 j.2.toNat))) (fun j => [(3, .int .i64 j.2), (4, .int .i64 (j.1 : Int))]) (fun j => [_]) (fun j => c.ages.length - j.1) (0, -1) ⟨by dsimp only; omega, .inl ⟨rfl, rfl⟩⟩ rfl (fun _ => rfl) ⟨rfl, rfl, trivial⟩ (fun w hw => hw) (fun j hj => ?_); obtain ⟨hj1, hj2⟩ := hj; obtain ⟨m, hm1, hm2, hm3⟩ := nbk hj2 hla) | refine c_seq ?_ | refine c_regionN rfl ?_ | refine c_ret ?_ | (refine kCond ?_; (first | refine c_cond_t rfl ?_ | refine c_cond_f rfl ?_ | ((first | refine c_cond_d rfl (fun h => ?_) (fun h => ?_) | refine c_cond_n rfl (fun h => ?_) (fun h => ?_)) <;> (try (first | contradiction | (exfalso; omega) | (exfalso; exact absurd hok (by assumption))))) | refine c_cond_nb rfl (fun h => ?_) (fun h => ?_) | refine c_cond rfl (fun h => ?_) (fun h => ?_))) | refine c_block ?_ | refine c_skip ?_ | refine c_exit ?_ | refine c_regionQN rfl rfl (by decide +kernel) ?_)) | apply s_stepQ | (refine kQG ?_; (first | refine s_gyesQ rfl rfl rfl ?_ | refine s_gnoQ rfl rfl rfl rfl rfl ?_ | ((first | refine s_splitQ_d rfl rfl (fun h => ?_) (fun h => ?_) | refine s_splitQ_n rfl rfl (fun h => ?_) (fun h => ?_)) <;> (try (first | contradiction | (exfalso; omega) | (exfalso; exact absurd hok (by assumption))))) | refine s_splitQ_nb rfl rfl (fun h => ?_) (fun h => ?_) | refine s_splitQ rfl rfl (fun h => ?_) (fun h => ?_))) | refine lQ_then ?_ | refine lQ_ends ?_ | (refine kE ?_; (first | refine e_then_r ?_ | refine e_block_r ?_ | refine e_then_n ?_ | refine e_then_x ?_ | refine e_block_n ?_ | refine e_block_x ?_ | refine e_block_y rfl ?_)) | refine l_ends ?_)
    all_goals try simp only [Int.toNat_natCast] at *
    · exact s_leave1 rfl rfl (fun w hw => ⟨ret_int (by rw [nb_zero hm1 (by omega) (by assumption)]), hw.below⟩)
    · obtain ⟨e1, e2⟩ := hm3 (by assumption)
      have hne : ¬ c.ages.getD 0 0 = 0 := by rw [← e1]; assumption
      exact e_round (j.1 + 1, (j.1 : Int)) ⟨by dsimp only; omega, .inr ⟨by dsimp only; omega, by dsimp only; rw [e1]; exact nb_first hla hne⟩⟩ ⟨rfl, slook_to rfl (vint_to (by push_cast; rfl)), (by repeat' first | exact trivial | refine ⟨rfl, ?_⟩)⟩ (fun w hw => hw) (by dsimp only; omega)
    · have hmm := hm2 (by assumption)
      exact e_round (j.1 + 1, (j.1 : Int)) ⟨by dsimp only; omega, .inr ⟨by dsimp only; omega, nb_more hm1 (by omega) (by assumption) (by rw [hmm]; assumption)⟩⟩ ⟨rfl, slook_to rfl (vint_to (by push_cast; rfl)), (by repeat' first | exact trivial | refine ⟨rfl, ?_⟩)⟩ (fun w hw => hw) (by dsimp only; omega)
    · have hmm := hm2 (by assumption)
      exact e_round (j.1 + 1, j.2) ⟨by dsimp only; omega, .inr ⟨by dsimp only; omega, by dsimp only; rw [← hmm]; exact nb_same hm1 (by omega) (by assumption) (by rw [hmm]; assumption)⟩⟩ ⟨rfl, slook_to rfl (vint_to (by push_cast; rfl)), (by repeat' first | exact trivial | refine ⟨rfl, ?_⟩)⟩ (fun w hw => hw) (by dsimp only; omega)
    · have h2 : 0 ≤ j.2 := by
        rcases hj2 with ⟨e, _⟩ | ⟨e, _⟩
        · omega
        · exact e
      exact s_leave1 rfl rfl (fun w hw => ⟨ret_int (by rw [nb_end hm1 (by omega), hm2 (by omega)]; omega), hw.below⟩)
  · have hn : nextBuffer c = -1 := by unfold nextBuffer; rw [if_neg hok]
    rw [hn]
    (first | apply SYields.mk | apply SYieldsF.mk | skip); refine s_enter Try.func54 rfl Try.ntmps54 rfl ?_
    repeat' (first | exact rfl | (apply kO; (first | exact ov_pure rfl | (apply kOBin; (first | exact aBin)) | (apply kOCall; (first | (apply kCallF; (first | exact (ov_call rfl (fun w hw => c_schainOk c _ _ _ _ w (hcc.keep (hw.cells rfl)))))) | (apply kCallB; (first | exact aBlt | exact (ov_lenR (fun w hw => r2.keep (hw.cells rfl)) rfl) | exact aLenR)))) | (apply kOLoad; (first | exact aLdF | exact aLdR)) | exact ov_fieldAddr rfl | (apply kOIdx; (first | exact aIdx)) | exact aRest | exact aNew | exact (ov_field1 (ft := 37) rfl rfl rfl rfl))) | (refine kN ?_; (first | (refine kStore ?_; (first | refine s_store1 _ rfl rfl gpA rfl (by rfl) ?_ | refine s_storeS _ rfl rfl gpA rfl rfl (by rfl) ?_ | refine s_storeS _ rfl rfl gpA rfl (ones_img oiA) (by rfl) ?_)) | refine s_boxS rfl rfl (fun b hb => ?_) | refine s_allocS rfl (fun b hb => ?_) | refine s_box1 rfl rfl rfl (fun b hb => ?_) | refine s_alloc1 rfl rfl (fun b hb => ?_) | refine s_buildSlice0 rfl (fun b hb => ?_) | refine s_buildSlice rfl rfl rfl rfl rfl (fun b hb => ?_) | apply s_step)) | (refine kG ?_; (first | refine s_gyes rfl rfl rfl ?_ | refine s_gno rfl rfl rfl rfl rfl ?_ | ((first | refine s_split_d rfl rfl (fun h => ?_) (fun h => ?_) | refine s_split_n rfl rfl (fun h => ?_) (fun h => ?_)) <;> (try (first | contradiction | (exfalso; omega) | (exfalso; exact absurd (by assumption) hok)))) | refine s_split_nb rfl rfl (fun h => ?_) (fun h => ?_) | refine s_split rfl rfl (fun h => ?_) (fun h => ?_))) | refine l_then ?_ | (refine kC ?_; (first | (refine kLoop 3 ?_; refine c_loopV (ι := Unit) (fun _ => True) (fun _ => [(3, .int .i64 (-1)), (4, .int .i64 0)]) (fun _ => [_]) (fun _ => 0) () trivial rfl (fun _ => rfl) ⟨rfl, rfl, trivial⟩ (fun w hw => hw) (fun _ _ => ?_)) | refine c_seq ?_ | refine c_regionN rfl ?_ | refine c_ret ?_ | (refine kCond ?_; (first | refine c_cond_t rfl ?_ | refine c_cond_f rfl ?_ | ((first | refine c_cond_d rfl (fun h => ?_) (fun h => ?_) | refine c_cond_n rfl (fun h => ?_) (fun h => ?_)) <;> (try (first | contradiction | (exfalso; omega) | (exfalso; exact absurd (by assumption) hok)))) | refine c_cond_nb rfl (fun h => ?_) (fun h => ?_) | refine c_cond rfl (fun h => ?_) (fun h => ?_))) | refine c_block ?_ | refine c_skip ?_ | refine c_exit ?_ | refine c_regionQN rfl rfl (by decide +kernel) ?_)) | apply s_stepQ | (refine kQG ?_; (first | refine s_gyesQ rfl rfl rfl ?_ | refine s_gnoQ rfl rfl rfl rfl rfl ?_ | ((first | refine s_splitQ_d rfl rfl (fun h => ?_) (fun h => ?_) | refine s_splitQ_n rfl rfl (fun h => ?_) (fun h => ?_)) <;> (try (first | contradiction | (exfalso; omega) | (exfalso; exact absurd (by assumption) hok)))) | refine s_splitQ_nb rfl rfl (fun h => ?_) (fun h => ?_) | refine s_splitQ rfl rfl (fun h => ?_) (fun h => ?_))) | refine lQ_then ?_ | refine lQ_ends ?_ | (refine kE ?_; (first | refine e_then_r ?_ | refine e_block_r ?_ | refine e_then_n ?_ | refine e_then_x ?_ | refine e_block_n ?_ | refine e_block_x ?_ | refine e_block_y rfl ?_)) | refine l_ends ?_)
    all_goals exact s_leave1 rfl rfl (fun w hw => ⟨rfl, hw.below⟩)
end Go.Proofs.Ytakijgpoaeggnaa
/-
  Rules: own slices of structs that are cut, shifted, cleared in place. Nothing of any one program.
-/
set_option linter.unusedVariables false
namespace Go.Proofs.Ytakijgpoaeggnaa
open Go Sx
attribute [local irreducible] Exit.then Exit.inBlock bodyPost
section
variable {P : Program} {n : Nat} {lo : SMut} {s : World} {E : SEnv} {L : SHeap} {d : Option Tmp} {ty : TypeId} {pos : String} {after : Array Edge} {g : Option (Nat × Bool)} {x y z' u' : Operand} {i j q : Int}
/-- where s[lo:] begins -/
def offL (c kk lo : Nat) : Nat := if c = lo then 0 else lo * kk
end
section
variable {P : Program} {n : Nat} {lo : SMut} {s : World} {ops : Array Oper} {Q : Exit → Act → World → Prop} {E : SEnv} {L : SHeap} {d : Nat} {ty : TypeId} {pos : String} {after : Array Edge} {rest : List Oper}
end
end Go.Proofs.Ytakijgpoaeggnaa
/-
  Joining the ways through a region: what comes after it is walked once. Pieces picked out of a heap in any order.
-/
set_option linter.unusedVariables false
namespace Go.Proofs.Ytakijgpoaeggnaa
open Go Sx
/-- these pieces, in this order -/
inductive Picks (L : SHeap) : List Nat → SHeap → Prop
  | nil : Picks L [] []
  | cons {i : Nat} {A : SPiece} {is : List Nat} {L' : SHeap} (hi : getL L i = some A) (h : Picks L is L') : Picks L (i :: is) (A :: L')
def nodupB : List Nat → Bool
  | [] => true
  | i :: is => !is.contains i && nodupB is
def lrev : SHeap → SHeap → SHeap
  | [], acc => acc
  | p :: r, acc => lrev r (p :: acc)
def lapp' : SHeap → SHeap → Option SHeap
  | [], acc => some acc
  | p :: r, acc => lapp' r (p :: acc)
def lapp (A B : SHeap) : Option SHeap := lapp' (lrev A []) B
section
variable {P : Program} {n : Nat} {lo : SMut} {s : World} {Q : Exit → Act → World → Prop} {E : SEnv} {L : SHeap}
end
end Go.Proofs.Ytakijgpoaeggnaa
/-
  Rules: rows of structs, taken apart and put together. Nothing of any one program.
-/
set_option linter.unusedVariables false
namespace Go.Proofs.Ytakijgpoaeggnaa
open Go Sx
attribute [local irreducible] Exit.then Exit.inBlock bodyPost tcells OInts OElems
end Go.Proofs.Ytakijgpoaeggnaa
/-
  Contracts: slices.Delete and slices.Insert of surfaces, in place.
-/
set_option linter.unusedVariables false
namespace Go.Proofs.Ytakijgpoaeggnaa
open Go Sx
attribute [local irreducible] Exit.then Exit.inBlock bodyPost tcells
section
variable {n : Nat} {lo : SMut} {s : World} {E : SEnv} {L : SHeap} {d : Option Tmp} {ty : TypeId} {pos : String} {after : Array Edge} {g : Option (Nat × Bool)}
end
end Go.Proofs.Ytakijgpoaeggnaa
/-
  Contracts: scenes that are copied, by both.
-/
set_option linter.unusedVariables false
namespace Go.Proofs.Ytakijgpoaeggnaa
open Go Sx
attribute [local irreducible] Exit.then Exit.inBlock bodyPost OInts OElems
theorem c_copySurface (s : DSurf) (d : Value) (W : World) (hd : RInts W d s.buf.data) (hl : s.buf.data.length ≤ 1000000000) : SYieldsF Try.prog 165 #[vSurf s d] (fun u H => OSurf u s H) W := by
  have hd' := hd.form
  obtain ⟨_, _, rfl⟩ := hd'
  (first | apply SYields.mk | apply SYieldsF.mk | skip); refine s_enter Try.func165 rfl Try.ntmps165 rfl ?_
  repeat' (first | exact rfl | (apply kO; (first | exact ov_pure rfl | (apply kOBin; (first | exact aBin)) | (apply kOCall; (first | (apply kCallB; (first | exact aBlt | exact aLenR)))) | (apply kOLoad; (first | exact aLdF | exact aLdR)) | exact ov_fieldAddr rfl | (apply kOIdx; (first | exact aIdx)) | exact aRest | exact aNew | exact (ov_field1 (ft := 37) rfl rfl rfl rfl))) | (refine kN ?_; (first | (refine kCall ?_; (first | (refine kWFn 96 ?_; (refine s_callF (fun u H => OImg u s.buf H) rfl (fun w hw => c_copyImage s.buf _ w (riA hw) hl) rfl (fun u H hu => ?_); obtain ⟨d', rfl, hu⟩ := hu; have f1 := hu.form; obtain ⟨_, _, rfl⟩ := f1)) | apply s_step)) | (refine kStore ?_; (first | (refine s_storeS _ rfl rfl gpA rfl (eSurf_ones (OInts.one (by assumption))) (by rfl) ?_) | refine s_store1 _ rfl rfl gpA rfl (by rfl) ?_ | refine s_storeS _ rfl rfl gpA rfl rfl (by rfl) ?_ | refine s_storeS _ rfl rfl gpA rfl (ones_img oiA) (by rfl) ?_)) | refine s_boxS rfl rfl (fun b hb => ?_) | refine s_allocS rfl (fun b hb => ?_) | refine s_box1 rfl rfl rfl (fun b hb => ?_) | refine s_alloc1 rfl rfl (fun b hb => ?_) | refine s_buildSlice0 rfl (fun b hb => ?_) | refine s_buildSlice rfl rfl rfl rfl rfl (fun b hb => ?_) | apply s_step)) | (refine kG ?_; (first | refine s_gyes rfl rfl rfl ?_ | refine s_gno rfl rfl rfl rfl rfl ?_ | ((first | refine s_split_d rfl rfl (fun h => ?_) (fun h => ?_) | refine s_split_n rfl rfl (fun h => ?_) (fun h => ?_)) <;> (try (first | contradiction | (exfalso; omega)))) | refine s_split_nb rfl rfl (fun h => ?_) (fun h => ?_) | refine s_split rfl rfl (fun h => ?_) (fun h => ?_))) | refine l_then ?_ | (refine kC ?_; (first | refine c_seq ?_ | refine c_regionN rfl ?_ | refine c_ret ?_ | (refine kCond ?_; (first | refine c_cond_t rfl ?_ | refine c_cond_f rfl ?_ | ((first | refine c_cond_d rfl (fun h => ?_) (fun h => ?_) | refine c_cond_n rfl (fun h => ?_) (fun h => ?_)) <;> (try (first | contradiction | (exfalso; omega)))) | refine c_cond_nb rfl (fun h => ?_) (fun h => ?_) | refine c_cond rfl (fun h => ?_) (fun h => ?_))) | refine c_block ?_ | refine c_skip ?_ | refine c_exit ?_ | refine c_regionQN rfl rfl (by decide +kernel) ?_)) | apply s_stepQ | (refine kQG ?_; (first | refine s_gyesQ rfl rfl rfl ?_ | refine s_gnoQ rfl rfl rfl rfl rfl ?_ | ((first | refine s_splitQ_d rfl rfl (fun h => ?_) (fun h => ?_) | refine s_splitQ_n rfl rfl (fun h => ?_) (fun h => ?_)) <;> (try (first | contradiction | (exfalso; omega)))) | refine s_splitQ_nb rfl rfl (fun h => ?_) (fun h => ?_) | refine s_splitQ rfl rfl (fun h => ?_) (fun h => ?_))) | refine lQ_then ?_ | refine lQ_ends ?_ | (refine kE ?_; (first | refine e_then_r ?_ | refine e_block_r ?_ | refine e_then_n ?_ | refine e_then_x ?_ | refine e_block_n ?_ | refine e_block_x ?_ | refine e_block_y rfl ?_)) | refine l_ends ?_)
  all_goals (refine kE ?_; refine s_leaveSF rfl rfl rfl fwA (fun w hw => ?_))
  all_goals exact ⟨_, _, rfl, ⟨_, rfl, by assumption⟩, hw.toFresh (H := H) gpA⟩
theorem c_l10CopySurface (s : DSurf) (d : Value) (W : World) (hd : RInts W d s.buf.data) (hl : s.buf.data.length ≤ 1000000000) : SYieldsF Try.prog 152 #[vSurf s d] (fun u H => OSurf u s H) W := by
  have hd' := hd.form
  obtain ⟨_, _, rfl⟩ := hd'
  (first | apply SYields.mk | apply SYieldsF.mk | skip); refine s_enter Try.func152 rfl Try.ntmps152 rfl ?_
  repeat' (first | exact rfl | (apply kO; (first | exact ov_pure rfl | (apply kOBin; (first | exact aBin)) | (apply kOCall; (first | (apply kCallB; (first | exact aBlt | exact aLenR)))) | (apply kOLoad; (first | exact aLdF | exact aLdR)) | exact ov_fieldAddr rfl | (apply kOIdx; (first | exact aIdx)) | exact aRest | exact aNew | exact (ov_field1 (ft := 37) rfl rfl rfl rfl))) | (refine kN ?_; (first | (refine kCall ?_; (first | (refine kWFn 153 ?_; (refine s_callF (fun u H => OImg u s.buf H) rfl (fun w hw => c_l05Copy s.buf _ w (riA hw) hl) rfl (fun u H hu => ?_); obtain ⟨d', rfl, hu⟩ := hu; have f1 := hu.form; obtain ⟨_, _, rfl⟩ := f1)) | apply s_step)) | (refine kStore ?_; (first | (refine s_storeS _ rfl rfl gpA rfl (eSurf_ones (OInts.one (by assumption))) (by rfl) ?_) | refine s_store1 _ rfl rfl gpA rfl (by rfl) ?_ | refine s_storeS _ rfl rfl gpA rfl rfl (by rfl) ?_ | refine s_storeS _ rfl rfl gpA rfl (ones_img oiA) (by rfl) ?_)) | refine s_boxS rfl rfl (fun b hb => ?_) | refine s_allocS rfl (fun b hb => ?_) | refine s_box1 rfl rfl rfl (fun b hb => ?_) | refine s_alloc1 rfl rfl (fun b hb => ?_) | refine s_buildSlice0 rfl (fun b hb => ?_) | refine s_buildSlice rfl rfl rfl rfl rfl (fun b hb => ?_) | apply s_step)) | (refine kG ?_; (first | refine s_gyes rfl rfl rfl ?_ | refine s_gno rfl rfl rfl rfl rfl ?_ | ((first | refine s_split_d rfl rfl (fun h => ?_) (fun h => ?_) | refine s_split_n rfl rfl (fun h => ?_) (fun h => ?_)) <;> (try (first | contradiction | (exfalso; omega)))) | refine s_split_nb rfl rfl (fun h => ?_) (fun h => ?_) | refine s_split rfl rfl (fun h => ?_) (fun h => ?_))) | refine l_then ?_ | (refine kC ?_; (first | refine c_seq ?_ | refine c_regionN rfl ?_ | refine c_ret ?_ | (refine kCond ?_; (first | refine c_cond_t rfl ?_ | refine c_cond_f rfl ?_ | ((first | refine c_cond_d rfl (fun h => ?_) (fun h => ?_) | refine c_cond_n rfl (fun h => ?_) (fun h => ?_)) <;> (try (first | contradiction | (exfalso; omega)))) | refine c_cond_nb rfl (fun h => ?_) (fun h => ?_) | refine c_cond rfl (fun h => ?_) (fun h => ?_))) | refine c_block ?_ | refine c_skip ?_ | refine c_exit ?_ | refine c_regionQN rfl rfl (by decide +kernel) ?_)) | apply s_stepQ | (refine kQG ?_; (first | refine s_gyesQ rfl rfl rfl ?_ | refine s_gnoQ rfl rfl rfl rfl rfl ?_ | ((first | refine s_splitQ_d rfl rfl (fun h => ?_) (fun h => ?_) | refine s_splitQ_n rfl rfl (fun h => ?_) (fun h => ?_)) <;> (try (first | contradiction | (exfalso; omega)))) | refine s_splitQ_nb rfl rfl (fun h => ?_) (fun h => ?_) | refine s_splitQ rfl rfl (fun h => ?_) (fun h => ?_))) | refine lQ_then ?_ | refine lQ_ends ?_ | (refine kE ?_; (first | refine e_then_r ?_ | refine e_block_r ?_ | refine e_then_n ?_ | refine e_then_x ?_ | refine e_block_n ?_ | refine e_block_x ?_ | refine e_block_y rfl ?_)) | refine l_ends ?_)
  all_goals (refine kE ?_; refine s_leaveSF rfl rfl rfl fwA (fun w hw => ?_))
  all_goals exact ⟨_, _, rfl, ⟨_, rfl, by assumption⟩, hw.toFresh (H := H) gpA⟩
theorem surfs_each {l : List DSurf} {m : Nat} (h : surfsLen l ≤ m) {i : Nat} (hi : i < l.length) : (l.getD i default).buf.data.length ≤ m := by
  have := le_sumTo (fun i => (l.getD i default).buf.data.length) hi; unfold surfsLen at h; omega
set_option maxHeartbeats 4000000 in
theorem c_copyScene (s : DScene) (v : Value) (W : World) (hv : RS eSurf W v s.ss) (hl : surfsLen s.ss ≤ 2000000) : SYieldsF Try.prog 101 #[vScene s v] (fun u H => OScene u s H) W := by
  obtain ⟨ds, hv⟩ := hv
  have hvf := hv.form
  obtain ⟨va, vc, rfl⟩ := hvf
  have hln : s.ss.length ≤ surfsLen s.ss := Nat.le_add_right _ _
  have htk : ∀ j, (s.ss.take j).length ≤ s.ss.length := fun j => by rw [List.length_take]; omega
  have hes := fun (i : Nat) (hi : i < s.ss.length) => surfs_each hl hi
  (first | apply SYields.mk | apply SYieldsF.mk | skip); refine s_enter Try.func101 rfl Try.ntmps101 rfl ?_
  repeat' (first | exact rfl | (apply kO; (first | exact ov_pure rfl | (apply kOBin; (first | exact aBin)) | (apply kOCall; (first | (apply kCallB; (first | exact aBlt | exact (ov_lenR (fun w hw => hv.row.keep (hw.cells rfl)) rfl) | exact aLenR)))) | (apply kOLoad; (first | exact (ov_ldRZ (fun w hw => hv.row.keep (hw.cells rfl)) rfl rfl (by omega) rfl) | exact aLdF | exact aLdR)) | exact ov_fieldAddr rfl | (apply kOIdx; (first | exact (ov_idxR (fun w hw => hv.row.keep (hw.cells rfl)) rfl rfl (by omega)) | exact aIdx)) | exact aRest | exact aNew | exact (ov_field1 (ft := 37) rfl rfl rfl rfl))) | (refine kN ?_; (first | (refine kCall ?_; (first | (refine kWFn 165 ?_; (refine s_callF (fun u H => OSurf u (s.ss.getD j.1 default) H) rfl (fun w hw => c_copySurface _ _ w (RInts.keep (hv.rd _ (by omega)) (hw.cells rfl)) (Nat.le_trans (hes j.1 (by omega)) (Nat.le_of_ble_eq_true rfl))) rfl (fun u H hu => ?_); obtain ⟨d', rfl, hu⟩ := hu; have f1 := hu.form; obtain ⟨_, _, rfl⟩ := f1)) | (refine kWApp ?_; (refine s_appendE _ _ _ (el := eSurf) (a := s.ss.getD j.1 default) rfl rfl (by assumption) gpA gpA (show eSurf.own _ _ _ from hu) gpA rfl rfl (eSurf_ones (OInts.one (by assumption))) (by rw [scells_eq]; rfl) (by decide) (by have := htk j.1; omega) (by decide) rfl (fun v' H' hv' => ?_); have f1 := hv'.form; obtain ⟨ua, uc, rfl⟩ := f1)) | apply s_step)) | (refine kStore ?_; (first | (refine s_storeS _ rfl rfl gpA rfl (eSurf_ones (RInts.one (hv.rd _ (by omega)))) (by rfl) ?_) | (refine s_storeS _ rfl rfl gpA rfl (ones_cons rfl (ones_cons rfl (ones_cons rfl (ones_cons (OElems.one (by assumption)) rfl)))) (by rfl) ?_) | refine s_store1 _ rfl rfl gpA rfl (by rfl) ?_ | refine s_storeS _ rfl rfl gpA rfl rfl (by rfl) ?_ | refine s_storeS _ rfl rfl gpA rfl (ones_img oiA) (by rfl) ?_)) | refine s_boxS rfl rfl (fun b hb => ?_) | refine s_allocS rfl (fun b hb => ?_) | refine s_box1 rfl rfl rfl (fun b hb => ?_) | refine s_alloc1 rfl rfl (fun b hb => ?_) | refine s_buildSlice0 rfl (fun b hb => ?_) | refine s_buildSlice rfl rfl rfl rfl rfl (fun b hb => ?_) | apply s_step)) | (refine kG ?_; (first | refine s_gyes rfl rfl rfl ?_ | refine s_gno rfl rfl rfl rfl rfl ?_ | ((first | refine s_split_d rfl rfl (fun h => ?_) (fun h => ?_) | refine s_split_n rfl rfl (fun h => ?_) (fun h => ?_)) <;> (try (first | contradiction | (exfalso; omega)))) | refine s_split_nb rfl rfl (fun h => ?_) (fun h => ?_) | refine s_split rfl rfl (fun h => ?_) (fun h => ?_))) | (refine kS ?_; (first | refine h_exec rfl ?_ | refine h_take_nil rfl rfl rfl ?_ | refine h_take_pick rfl rfl rfl ?_ | refine h_nil ?_ | refine h_alt ?_ ?_ | apply h_take)) | (refine kBack ?_; (first | refine h_back_last rfl ?_ | refine h_backN rfl subA ?_)) | refine l_then ?_ | (refine kC ?_; (first | (refine kReg 5 ?_; refine c_regionSubN (SPlan.take 0 (SPlan.take 1 (SPlan.take 2 (SPlan.run 3 (SPlan.run 4 (SPlan.run 5 (SPlan.take 6 (SPlan.run 7 SPlan.done)))))))) (some 7) [true, true, false, true, true] rfl rfl rfl (by decide +kernel) ?_) | (refine c_loopV (ι := Nat × Value × SPiece) (fun j => j.1 ≤ s.ss.length ∧ OElems eSurf 62 j.2.1 (s.ss.take j.1) j.2.2) (fun j => [(16, .int .i64 (j.1 : Int))]) (fun j => [[(_, srow [.int .i64 s.W, .int .i64 s.H, .int .i64 s.Back, j.2.1] 26)], j.2.2, _, _]) (fun j => s.ss.length - j.1) (0, _, []) ⟨by dsimp only; omega, by dsimp only; rw [List.take_zero]; exact OElems.nil⟩ rfl (fun _ => rfl) ⟨rfl, trivial⟩ (fun w hw => hw.nil1) (fun j hj => ?_); obtain ⟨hj1, hj2⟩ := hj; have f2 := hj2.form; obtain ⟨wa, wc, ej⟩ := f2) | refine c_seq ?_ | refine c_regionN rfl ?_ | refine c_ret ?_ | (refine kCond ?_; (first | refine c_cond_t rfl ?_ | refine c_cond_f rfl ?_ | ((first | refine c_cond_d rfl (fun h => ?_) (fun h => ?_) | refine c_cond_n rfl (fun h => ?_) (fun h => ?_)) <;> (try (first | contradiction | (exfalso; omega)))) | refine c_cond_nb rfl (fun h => ?_) (fun h => ?_) | refine c_cond rfl (fun h => ?_) (fun h => ?_))) | refine c_block ?_ | refine c_skip ?_ | refine c_exit ?_ | refine c_regionQN rfl rfl (by decide +kernel) ?_)) | apply s_stepQ | (refine kQG ?_; (first | refine s_gyesQ rfl rfl rfl ?_ | refine s_gnoQ rfl rfl rfl rfl rfl ?_ | ((first | refine s_splitQ_d rfl rfl (fun h => ?_) (fun h => ?_) | refine s_splitQ_n rfl rfl (fun h => ?_) (fun h => ?_)) <;> (try (first | contradiction | (exfalso; omega)))) | refine s_splitQ_nb rfl rfl (fun h => ?_) (fun h => ?_) | refine s_splitQ rfl rfl (fun h => ?_) (fun h => ?_))) | refine lQ_then ?_ | refine lQ_ends ?_ | (refine kE ?_; (first | refine e_then_r ?_ | refine e_block_r ?_ | refine e_then_n ?_ | refine e_then_x ?_ | refine e_block_n ?_ | refine e_block_x ?_ | refine e_block_y rfl ?_)) | refine l_ends ?_)
  · refine e_round (j.1 + 1, _, H') ⟨by dsimp only; omega, by dsimp only; rw [take_getD default (by omega)]; exact hv'⟩ ⟨slook_to rfl (vint_to (by push_cast; rfl)), (by repeat' first | exact trivial | refine ⟨rfl, ?_⟩)⟩ (fun w hw => hw.sub (selO_sub [false, false, false, true, true, true, true] _ _ rfl)) (by dsimp only; omega)
  · rw [List.take_of_length_le (by omega)] at hj2
    exact s_leaveSF rfl rfl rfl fwA (fun w hw => ⟨_, _, rfl, ⟨_, rfl, hj2⟩, hw.toFresh (H := j.2.2) gpA⟩)
set_option maxHeartbeats 4000000 in
theorem c_l10Copy (s : DScene) (v : Value) (W : World) (hv : RS eSurf W v s.ss) (hl : surfsLen s.ss ≤ 2000000) : SYieldsF Try.prog 74 #[vScene s v] (fun u H => OScene u s H) W := by
  obtain ⟨ds, hv⟩ := hv
  have hvf := hv.form
  obtain ⟨va, vc, rfl⟩ := hvf
  have hln : s.ss.length ≤ surfsLen s.ss := Nat.le_add_right _ _
  have htk : ∀ j, (s.ss.take j).length ≤ s.ss.length := fun j => by rw [List.length_take]; omega
  have hes := fun (i : Nat) (hi : i < s.ss.length) => surfs_each hl hi
  (first | apply SYields.mk | apply SYieldsF.mk | skip); refine s_enter Try.func74 rfl Try.ntmps74 rfl ?_
  repeat' (first | exact rfl | (apply kO; (first | exact ov_pure rfl | (apply kOBin; (first | exact aBin)) | (apply kOCall; (first | (apply kCallB; (first | exact aBlt | exact (ov_lenR (fun w hw => hv.row.keep (hw.cells rfl)) rfl) | exact aLenR)))) | (apply kOLoad; (first | exact (ov_ldRZ (fun w hw => hv.row.keep (hw.cells rfl)) rfl rfl (by omega) rfl) | exact aLdF | exact aLdR)) | exact ov_fieldAddr rfl | (apply kOIdx; (first | exact (ov_idxR (fun w hw => hv.row.keep (hw.cells rfl)) rfl rfl (by omega)) | exact aIdx)) | exact aRest | exact aNew | exact (ov_field1 (ft := 37) rfl rfl rfl rfl))) | (refine kN ?_; (first | (refine kCall ?_; (first | (refine kWFn 152 ?_; (refine s_callF (fun u H => OSurf u (s.ss.getD j.1 default) H) rfl (fun w hw => c_l10CopySurface _ _ w (RInts.keep (hv.rd _ (by omega)) (hw.cells rfl)) (Nat.le_trans (hes j.1 (by omega)) (Nat.le_of_ble_eq_true rfl))) rfl (fun u H hu => ?_); obtain ⟨d', rfl, hu⟩ := hu; have f1 := hu.form; obtain ⟨_, _, rfl⟩ := f1)) | (refine kWApp ?_; (refine s_appendE _ _ _ (el := eSurf) (a := s.ss.getD j.1 default) rfl rfl (by assumption) gpA gpA (show eSurf.own _ _ _ from hu) gpA rfl rfl (eSurf_ones (OInts.one (by assumption))) (by rw [scells_eq]; rfl) (by decide) (by have := htk j.1; omega) (by decide) rfl (fun v' H' hv' => ?_); have f1 := hv'.form; obtain ⟨ua, uc, rfl⟩ := f1)) | apply s_step)) | (refine kStore ?_; (first | (refine s_storeS _ rfl rfl gpA rfl (ones_cons rfl (ones_cons rfl (ones_cons rfl (ones_cons (OElems.one (by assumption)) rfl)))) (by rfl) ?_) | refine s_store1 _ rfl rfl gpA rfl (by rfl) ?_ | refine s_storeS _ rfl rfl gpA rfl rfl (by rfl) ?_ | refine s_storeS _ rfl rfl gpA rfl (ones_img oiA) (by rfl) ?_)) | refine s_boxS rfl rfl (fun b hb => ?_) | refine s_allocS rfl (fun b hb => ?_) | refine s_box1 rfl rfl rfl (fun b hb => ?_) | refine s_alloc1 rfl rfl (fun b hb => ?_) | refine s_buildSlice0 rfl (fun b hb => ?_) | refine s_buildSlice rfl rfl rfl rfl rfl (fun b hb => ?_) | apply s_step)) | (refine kG ?_; (first | refine s_gyes rfl rfl rfl ?_ | refine s_gno rfl rfl rfl rfl rfl ?_ | ((first | refine s_split_d rfl rfl (fun h => ?_) (fun h => ?_) | refine s_split_n rfl rfl (fun h => ?_) (fun h => ?_)) <;> (try (first | contradiction | (exfalso; omega)))) | refine s_split_nb rfl rfl (fun h => ?_) (fun h => ?_) | refine s_split rfl rfl (fun h => ?_) (fun h => ?_))) | (refine kS ?_; (first | refine h_exec rfl ?_ | refine h_take_nil rfl rfl rfl ?_ | refine h_take_pick rfl rfl rfl ?_ | refine h_nil ?_ | refine h_alt ?_ ?_ | apply h_take)) | (refine kBack ?_; (first | refine h_back_last rfl ?_ | refine h_backN rfl subA ?_)) | refine l_then ?_ | (refine kC ?_; (first | (refine kReg 5 ?_; refine c_regionSubN (SPlan.take 0 (SPlan.take 1 (SPlan.take 2 (SPlan.take 3 (SPlan.take 4 (SPlan.take 5 (SPlan.take 6 (SPlan.run 7 (SPlan.run 8 (SPlan.run 9 (SPlan.take 10 (SPlan.run 11 SPlan.done)))))))))))) (some 11) [true, false, true, true] rfl rfl rfl (by decide +kernel) ?_) | (refine c_loopV (ι := Nat × Value × SPiece) (fun j => j.1 ≤ s.ss.length ∧ OElems eSurf 62 j.2.1 (s.ss.take j.1) j.2.2) (fun j => [(4, .int .i64 (j.1 : Int))]) (fun j => [[(_, srow [.int .i64 s.W, .int .i64 s.H, .int .i64 s.Back, j.2.1] 26)], j.2.2, _, _]) (fun j => s.ss.length - j.1) (0, _, []) ⟨by dsimp only; omega, by dsimp only; rw [List.take_zero]; exact OElems.nil⟩ rfl (fun _ => rfl) ⟨rfl, trivial⟩ (fun w hw => hw.nil1) (fun j hj => ?_); obtain ⟨hj1, hj2⟩ := hj; have f2 := hj2.form; obtain ⟨wa, wc, ej⟩ := f2) | refine c_seq ?_ | refine c_regionN rfl ?_ | refine c_ret ?_ | (refine kCond ?_; (first | refine c_cond_t rfl ?_ | refine c_cond_f rfl ?_ | ((first | refine c_cond_d rfl (fun h => ?_) (fun h => ?_) | refine c_cond_n rfl (fun h => ?_) (fun h => ?_)) <;> (try (first | contradiction | (exfalso; omega)))) | refine c_cond_nb rfl (fun h => ?_) (fun h => ?_) | refine c_cond rfl (fun h => ?_) (fun h => ?_))) | refine c_block ?_ | refine c_skip ?_ | refine c_exit ?_ | refine c_regionQN rfl rfl (by decide +kernel) ?_)) | apply s_stepQ | (refine kQG ?_; (first | refine s_gyesQ rfl rfl rfl ?_ | refine s_gnoQ rfl rfl rfl rfl rfl ?_ | ((first | refine s_splitQ_d rfl rfl (fun h => ?_) (fun h => ?_) | refine s_splitQ_n rfl rfl (fun h => ?_) (fun h => ?_)) <;> (try (first | contradiction | (exfalso; omega)))) | refine s_splitQ_nb rfl rfl (fun h => ?_) (fun h => ?_) | refine s_splitQ rfl rfl (fun h => ?_) (fun h => ?_))) | refine lQ_then ?_ | refine lQ_ends ?_ | (refine kE ?_; (first | refine e_then_r ?_ | refine e_block_r ?_ | refine e_then_n ?_ | refine e_then_x ?_ | refine e_block_n ?_ | refine e_block_x ?_ | refine e_block_y rfl ?_)) | refine l_ends ?_)
  · refine e_round (j.1 + 1, _, H') ⟨by dsimp only; omega, by dsimp only; rw [take_getD default (by omega)]; exact hv'⟩ ⟨slook_to rfl (vint_to (by push_cast; rfl)), (by repeat' first | exact trivial | refine ⟨rfl, ?_⟩)⟩ (fun w hw => hw.sub (selO_sub [false, false, true, true, true, true] _ _ rfl)) (by dsimp only; omega)
  · rw [List.take_of_length_le (by omega)] at hj2
    exact s_leaveSF rfl rfl rfl fwA (fun w hw => ⟨_, _, rfl, ⟨_, rfl, hj2⟩, hw.toFresh (H := j.2.2) gpA⟩)
end Go.Proofs.Ytakijgpoaeggnaa
/-
  The plain functions, continued: one element left out. No program in sight.
-/
set_option linter.unusedVariables false
namespace Sx
/-- the first i elements but number k -/
def eraseTo {α : Type} (l : List α) (k i : Nat) : List α := (l.take i).eraseIdx k
end Sx
/-
  The plain functions, continued: the steps of gathering the damage. No program in sight.
-/
set_option linter.unusedVariables false
namespace Sx
/-- both parts: after i surfaces of the second scene -/
def dB (a b : DScene) (i : Nat) : Grid := (accG (damA a b) a.ss.length).or (accG (damB a b) i)
def dC (a b : DScene) (i k : Nat) : Grid := (dB a b i).or (accG (damC a b i) k)
/-! the reference -/
def dlT (a b : DScene) (i : Nat) : List DRect := dlA a b a.ss.length ++ dlB a b i
def dlU (a b : DScene) (i k : Nat) : List DRect := dlT a b i ++ dlO a b i ++ dlC a b i k
end Sx
/-
  Contracts: an edit in place, by the program: the kinds that leave the surfaces where they are.
-/
set_option linter.unusedVariables false
namespace Go.Proofs.Ytakijgpoaeggnaa
open Go Sx
attribute [local irreducible] Exit.then Exit.inBlock bodyPost tcells OInts OElems
/-- what 'edited' leaves: the struct at 'bo' and its surfaces -/
def EdOut (bo : Nat) (s : DScene) (H' : SPiece) : Prop := ∃ v' H2, H' = [(bo, srow [.int .i64 s.W, .int .i64 s.H, .int .i64 s.Back, v'] 26)] ++ H2 ∧ OElems eSurf 62 v' s.ss H2
abbrev EdPre (bo : Nat) (s : DScene) (v : Value) (H : SPiece) : SPiece := [(bo, srow [.int .i64 s.W, .int .i64 s.H, .int .i64 s.Back, v] 26)] ++ H
end Go.Proofs.Ytakijgpoaeggnaa
