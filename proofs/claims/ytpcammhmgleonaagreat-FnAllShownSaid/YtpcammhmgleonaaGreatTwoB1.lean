/-
  Texts that the law stands on, part 1: Mdl, K1, K3, KF, KD, M1, D1, K12, KP, K8, K10, K11, M2, M3.
-/
import Derived.Test.YtpcammhmgleonaaGreatTypes
import Derived.Test.YtpcammhmgleonaaGreatSx
namespace Sx

theorem mul_bd {a b A B : Int} (ha : 0 ≤ a ∧ a ≤ A) (hb : 0 ≤ b ∧ b ≤ B) : 0 ≤ a * b ∧ a * b ≤ A * B :=
  ⟨Int.mul_nonneg ha.1 hb.1, Int.le_trans (Int.mul_le_mul_of_nonneg_right ha.2 hb.1) (Int.mul_le_mul_of_nonneg_left hb.2 (by omega))⟩
theorem mul_pos' {a b : Int} (ha : 1 ≤ a) (hb : 1 ≤ b) : 1 ≤ a * b := Int.mul_pos ha hb

def levelOf (d k : Int) : Int := if 0 ≤ d ∧ d ≤ 262143 ∧ 0 ≤ k ∧ k ≤ 2 then (d / 2 ^ (12 - 6 * k).toNat) % 2 ^ 6 else -1
def threshold (x y : Int) : Int := if x % 2 = 0 then (if y % 2 = 0 then 0 else 3) else (if y % 2 = 0 then 2 else 1)
def ditherLevel (v x y : Int) : Int := if 0 ≤ v ∧ v ≤ 255 then (252 * v + 255 * threshold x y) / 1020 else -1
def atB (l : List Int) (i : Nat) : Int := if l.length = 0 then 0 else l.getD ((i * 5 + 1) % l.length) 0
def allDots (l : List Int) : Prop := ∀ i : Nat, i < l.length → 0 ≤ l.getD i 0 ∧ l.getD i 0 ≤ 262143
def dotsTo (l : List Int) (j : Nat) : Prop := ∀ i : Nat, i < j → 0 ≤ l.getD i 0 ∧ l.getD i 0 ≤ 262143
theorem dotsTo_zero (l : List Int) : dotsTo l 0 := fun i h => by omega
instance (l : List Int) : Decidable (allDots l) := inferInstanceAs (Decidable (∀ i : Nat, i < l.length → _))
def pictureOk (l : List Int) (w h : Int) : Prop := (1 ≤ w ∧ w ≤ 16) ∧ (1 ≤ h ∧ h ≤ 16) ∧ (l.length : Int) = w * h ∧ allDots l
instance (l : List Int) (w h : Int) : Decidable (pictureOk l w h) := by unfold pictureOk; infer_instance
def chan (p k : Int) : Int := (p / 2 ^ (24 - 8 * k).toNat) % 2 ^ 8
def channelOf (p k : Int) : Int := if 0 ≤ p ∧ p ≤ 4294967295 ∧ 0 ≤ k ∧ k ≤ 3 then chan p k else -1
def ditherPixel (p x y : Int) : Int :=
  if 0 ≤ p ∧ p ≤ 4294967295 then ditherLevel (chan p 1) x y * 4096 + ditherLevel (chan p 2) x y * 64 + ditherLevel (chan p 3) x y else -1
theorem chan_bd (p k : Int) : 0 ≤ chan p k ∧ chan p k ≤ 255 := by unfold chan; omega
structure DMode where
  Clock : Int
  W : Int
  HFront : Int
  HSync : Int
  HBack : Int
  H : Int
  VFront : Int
  VSync : Int
  VBack : Int
def DMode.ok (m : DMode) : Prop := (1 ≤ m.Clock ∧ m.Clock ≤ 1000000) ∧ (1 ≤ m.W ∧ m.W ≤ 16) ∧ (1 ≤ m.H ∧ m.H ≤ 16) ∧ (1 ≤ m.HSync ∧ m.HSync ≤ 40) ∧ (1 ≤ m.VSync ∧ m.VSync ≤ 40) ∧ (0 ≤ m.HFront ∧ m.HFront ≤ 40) ∧ (0 ≤ m.HBack ∧ m.HBack ≤ 40) ∧ (0 ≤ m.VFront ∧ m.VFront ≤ 40) ∧ (0 ≤ m.VBack ∧ m.VBack ≤ 40)
instance (m : DMode) : Decidable m.ok := by unfold DMode.ok; infer_instance
def blankLines (m : DMode) : Int := if m.ok then m.VFront + m.VSync + m.VBack else 0
def lineTotal (m : DMode) : Int := if m.ok then m.W + m.HFront + m.HSync + m.HBack else 0
def frameTotal (m : DMode) : Int := if m.ok then lineTotal m * (m.H + blankLines m) else 0
def refreshRate (m : DMode) : Int := if m.ok then m.Clock * 1000000 / frameTotal m else 0
theorem side_mul {w h : Int} : (1 ≤ w ∧ w ≤ 16 ∧ 1 ≤ h ∧ h ≤ 16) → (1 ≤ w * h ∧ w * h ≤ 256) := fun a => by
  have := mul_bd (a := w) (b := h) (A := 16) (B := 16) (by omega) (by omega)
  have := mul_pos' (a := w) (b := h) (by omega) (by omega)
  omega
def tiles (n : Int) : Int := (n + 3) / 4
def wordCount (w h layout : Int) : Int :=
  if 1 ≤ w ∧ w ≤ 16 ∧ 1 ≤ h ∧ h ≤ 16 then (if layout = 0 then w * h else if layout = 1 then tiles w * 4 * (tiles h * 4) else -1) else -1
def wplace (w layout x y : Int) : Int := if layout = 0 then y * w + x else (y / 4 * tiles w + x / 4) * 16 + y % 4 * 4 + x % 4
def wordPlace (w h layout x y : Int) : Int := if wordCount w h layout < 0 ∨ x < 0 ∨ w ≤ x ∨ y < 0 ∨ h ≤ y then -1 else wplace w layout x y
def dsum (v x y : Int) : Nat → Int
  | 0 => 0
  | k + 1 => dsum v x y k + ditherLevel v (x + (k : Int).tmod 2) (y + (k : Int).tdiv 2)
def dpix (p x y : Int) : Nat → Int
  | 0 => 0
  | k + 1 => if k < 3 then dpix p x y k * 64 + ditherLevel (chan p ((k : Int) + 1)) x y else 0
structure DColor where
  mat : List Int
  curve : List Int
deriving DecidableEq
def szI (n : Nat) (left : Int) : Int := if left - n < 0 then -1 else left - n
def inR (lo hi : Int) (l : List Int) : Prop := ∀ i : Nat, i < l.length → lo ≤ l.getD i 0 ∧ l.getD i 0 ≤ hi
instance (lo hi : Int) (l : List Int) : Decidable (inR lo hi l) := inferInstanceAs (Decidable (∀ i : Nat, i < l.length → _))
def inTo (lo hi : Int) (l : List Int) (j : Nat) : Prop := ∀ i : Nat, i < j → lo ≤ l.getD i 0 ∧ l.getD i 0 ≤ hi
theorem inTo_zero (lo hi : Int) (l : List Int) : inTo lo hi l 0 := fun i h => by omega
theorem inTo_next {lo hi : Int} {l : List Int} {j : Nat} (h : inTo lo hi l j) (hj : lo ≤ l.getD j 0 ∧ l.getD j 0 ≤ hi) : inTo lo hi l (j + 1) := fun i hi => by
  by_cases e : i = j
  · subst e; exact hj
  · exact h i (by omega)
def DColor.ok (m : DColor) : Prop := m.mat.length = 9 ∧ m.curve.length = 17 ∧ inR (-1024) 1024 m.mat ∧ inR 0 256 m.curve
instance (m : DColor) : Decidable m.ok := by unfold DColor.ok; infer_instance
end Sx
set_option linter.unusedVariables false
namespace Go.Proofs.YtpcammhmgleonaaGreat
open Go Sx
attribute [local irreducible] Exit.then Exit.inBlock bodyPost

theorem c_l01In (x lo hi : Int) (w : World) : SYields Tryz.prog 53 #[.int .i64 x, .int .i64 lo, .int .i64 hi] (.bool (decide (lo ≤ x ∧ x ≤ hi))) w := by
  (first | apply SYields.mk | apply SYieldsF.mk | skip); refine s_enter Tryz.func53 rfl Tryz.ntmps53 rfl ?_
  repeat' (first | exact rfl | (apply kO; (first | exact ov_pure rfl | (apply kOBin; (first | exact aBin)) | (apply kOCall; (first | (apply kCallB; (first | exact aBlt | exact aLenR)))) | (apply kOLoad; (first | exact aLdF | exact aLdR)) | exact ov_fieldAddr rfl | (apply kOIdx; (first | exact aIdx)) | exact aRest | exact aNew | exact (ov_field1 (ft := 31) rfl rfl rfl rfl))) | (refine kN ?_; (first | (refine kStore ?_; (first | refine s_store1 _ rfl rfl gpA rfl (by rfl) ?_ | refine s_storeS _ rfl rfl gpA rfl rfl (by rfl) ?_ | refine s_storeS _ rfl rfl gpA rfl (ones_img oiA) (by rfl) ?_)) | refine s_boxS rfl rfl (fun b hb => ?_) | refine s_allocS rfl (fun b hb => ?_) | refine s_box1 rfl rfl rfl (fun b hb => ?_) | refine s_alloc1 rfl rfl (fun b hb => ?_) | refine s_buildSlice0 rfl (fun b hb => ?_) | refine s_buildSlice rfl rfl rfl rfl rfl (fun b hb => ?_) | apply s_step)) | (refine kG ?_; (first | refine s_gyes rfl rfl rfl ?_ | refine s_gno rfl rfl rfl rfl rfl ?_ | ((first | refine s_split_d rfl rfl (fun h => ?_) (fun h => ?_) | refine s_split_n rfl rfl (fun h => ?_) (fun h => ?_)) <;> (try (first | contradiction | (exfalso; omega)))) | refine s_split_nb rfl rfl (fun h => ?_) (fun h => ?_) | refine s_split rfl rfl (fun h => ?_) (fun h => ?_))) | refine l_then ?_ | (refine kC ?_; (first | refine c_seq ?_ | refine c_regionN rfl ?_ | refine c_ret ?_ | (refine kCond ?_; (first | refine c_cond_t rfl ?_ | refine c_cond_f rfl ?_ | ((first | refine c_cond_d rfl (fun h => ?_) (fun h => ?_) | refine c_cond_n rfl (fun h => ?_) (fun h => ?_)) <;> (try (first | contradiction | (exfalso; omega)))) | refine c_cond_nb rfl (fun h => ?_) (fun h => ?_) | refine c_cond rfl (fun h => ?_) (fun h => ?_))) | refine c_block ?_ | refine c_skip ?_ | refine c_exit ?_ | refine c_regionQN rfl rfl (by decide +kernel) ?_)) | apply s_stepQ | (refine kQG ?_; (first | refine s_gyesQ rfl rfl rfl ?_ | refine s_gnoQ rfl rfl rfl rfl rfl ?_ | ((first | refine s_splitQ_d rfl rfl (fun h => ?_) (fun h => ?_) | refine s_splitQ_n rfl rfl (fun h => ?_) (fun h => ?_)) <;> (try (first | contradiction | (exfalso; omega)))) | refine s_splitQ_nb rfl rfl (fun h => ?_) (fun h => ?_) | refine s_splitQ rfl rfl (fun h => ?_) (fun h => ?_))) | refine lQ_then ?_ | refine lQ_ends ?_ | (refine kE ?_; (first | refine e_then_r ?_ | refine e_block_r ?_ | refine e_then_n ?_ | refine e_then_x ?_ | refine e_block_n ?_ | refine e_block_x ?_ | refine e_block_y rfl ?_)) | refine l_ends ?_)
  all_goals refine s_leave1 rfl rfl (fun w hw => ⟨?_, hw.below⟩)
  all_goals first | rfl | exact ret_true (by omega) | exact ret_false (by omega) | exact ret_dec (by omega)
theorem c_within (x lo hi : Int) (w : World) : SYields Tryz.prog 23 #[.int .i64 x, .int .i64 lo, .int .i64 hi] (.bool (decide (lo ≤ x ∧ x ≤ hi))) w := by
  (first | apply SYields.mk | apply SYieldsF.mk | skip); refine s_enter Tryz.func23 rfl Tryz.ntmps23 rfl ?_
  repeat' (first | exact rfl | (apply kO; (first | exact ov_pure rfl | (apply kOBin; (first | exact aBin)) | (apply kOCall; (first | (apply kCallB; (first | exact aBlt | exact aLenR)))) | (apply kOLoad; (first | exact aLdF | exact aLdR)) | exact ov_fieldAddr rfl | (apply kOIdx; (first | exact aIdx)) | exact aRest | exact aNew | exact (ov_field1 (ft := 31) rfl rfl rfl rfl))) | (refine kN ?_; (first | (refine kStore ?_; (first | refine s_store1 _ rfl rfl gpA rfl (by rfl) ?_ | refine s_storeS _ rfl rfl gpA rfl rfl (by rfl) ?_ | refine s_storeS _ rfl rfl gpA rfl (ones_img oiA) (by rfl) ?_)) | refine s_boxS rfl rfl (fun b hb => ?_) | refine s_allocS rfl (fun b hb => ?_) | refine s_box1 rfl rfl rfl (fun b hb => ?_) | refine s_alloc1 rfl rfl (fun b hb => ?_) | refine s_buildSlice0 rfl (fun b hb => ?_) | refine s_buildSlice rfl rfl rfl rfl rfl (fun b hb => ?_) | apply s_step)) | (refine kG ?_; (first | refine s_gyes rfl rfl rfl ?_ | refine s_gno rfl rfl rfl rfl rfl ?_ | ((first | refine s_split_d rfl rfl (fun h => ?_) (fun h => ?_) | refine s_split_n rfl rfl (fun h => ?_) (fun h => ?_)) <;> (try (first | contradiction | (exfalso; omega)))) | refine s_split_nb rfl rfl (fun h => ?_) (fun h => ?_) | refine s_split rfl rfl (fun h => ?_) (fun h => ?_))) | refine l_then ?_ | (refine kC ?_; (first | refine c_seq ?_ | refine c_regionN rfl ?_ | refine c_ret ?_ | (refine kCond ?_; (first | refine c_cond_t rfl ?_ | refine c_cond_f rfl ?_ | ((first | refine c_cond_d rfl (fun h => ?_) (fun h => ?_) | refine c_cond_n rfl (fun h => ?_) (fun h => ?_)) <;> (try (first | contradiction | (exfalso; omega)))) | refine c_cond_nb rfl (fun h => ?_) (fun h => ?_) | refine c_cond rfl (fun h => ?_) (fun h => ?_))) | refine c_block ?_ | refine c_skip ?_ | refine c_exit ?_ | refine c_regionQN rfl rfl (by decide +kernel) ?_)) | apply s_stepQ | (refine kQG ?_; (first | refine s_gyesQ rfl rfl rfl ?_ | refine s_gnoQ rfl rfl rfl rfl rfl ?_ | ((first | refine s_splitQ_d rfl rfl (fun h => ?_) (fun h => ?_) | refine s_splitQ_n rfl rfl (fun h => ?_) (fun h => ?_)) <;> (try (first | contradiction | (exfalso; omega)))) | refine s_splitQ_nb rfl rfl (fun h => ?_) (fun h => ?_) | refine s_splitQ rfl rfl (fun h => ?_) (fun h => ?_))) | refine lQ_then ?_ | refine lQ_ends ?_ | (refine kE ?_; (first | refine e_then_r ?_ | refine e_block_r ?_ | refine e_then_n ?_ | refine e_then_x ?_ | refine e_block_n ?_ | refine e_block_x ?_ | refine e_block_y rfl ?_)) | refine l_ends ?_)
  all_goals refine s_leave1 rfl rfl (fun w hw => ⟨?_, hw.below⟩)
  all_goals first | rfl | exact ret_true (by omega) | exact ret_false (by omega) | exact ret_dec (by omega)
theorem c_isSide (x : Int) (w : World) : SYields Tryz.prog 46 #[.int .i64 x] (.bool (decide (1 ≤ x ∧ x ≤ 16))) w := by
  (first | apply SYields.mk | apply SYieldsF.mk | skip); refine s_enter Tryz.func46 rfl Tryz.ntmps46 rfl ?_
  repeat' (first | exact rfl | (apply kO; (first | exact ov_pure rfl | (apply kOBin; (first | exact aBin)) | (apply kOCall; (first | (apply kCallF; (first | exact (ov_call rfl (fun w hw => c_within _ _ _ w)))) | (apply kCallB; (first | exact aBlt | exact aLenR)))) | (apply kOLoad; (first | exact aLdF | exact aLdR)) | exact ov_fieldAddr rfl | (apply kOIdx; (first | exact aIdx)) | exact aRest | exact aNew | exact (ov_field1 (ft := 31) rfl rfl rfl rfl))) | (refine kN ?_; (first | (refine kStore ?_; (first | refine s_store1 _ rfl rfl gpA rfl (by rfl) ?_ | refine s_storeS _ rfl rfl gpA rfl rfl (by rfl) ?_ | refine s_storeS _ rfl rfl gpA rfl (ones_img oiA) (by rfl) ?_)) | refine s_boxS rfl rfl (fun b hb => ?_) | refine s_allocS rfl (fun b hb => ?_) | refine s_box1 rfl rfl rfl (fun b hb => ?_) | refine s_alloc1 rfl rfl (fun b hb => ?_) | refine s_buildSlice0 rfl (fun b hb => ?_) | refine s_buildSlice rfl rfl rfl rfl rfl (fun b hb => ?_) | apply s_step)) | (refine kG ?_; (first | refine s_gyes rfl rfl rfl ?_ | refine s_gno rfl rfl rfl rfl rfl ?_ | ((first | refine s_split_d rfl rfl (fun h => ?_) (fun h => ?_) | refine s_split_n rfl rfl (fun h => ?_) (fun h => ?_)) <;> (try (first | contradiction | (exfalso; omega)))) | refine s_split_nb rfl rfl (fun h => ?_) (fun h => ?_) | refine s_split rfl rfl (fun h => ?_) (fun h => ?_))) | refine l_then ?_ | (refine kC ?_; (first | refine c_seq ?_ | refine c_regionN rfl ?_ | refine c_ret ?_ | (refine kCond ?_; (first | refine c_cond_t rfl ?_ | refine c_cond_f rfl ?_ | ((first | refine c_cond_d rfl (fun h => ?_) (fun h => ?_) | refine c_cond_n rfl (fun h => ?_) (fun h => ?_)) <;> (try (first | contradiction | (exfalso; omega)))) | refine c_cond_nb rfl (fun h => ?_) (fun h => ?_) | refine c_cond rfl (fun h => ?_) (fun h => ?_))) | refine c_block ?_ | refine c_skip ?_ | refine c_exit ?_ | refine c_regionQN rfl rfl (by decide +kernel) ?_)) | apply s_stepQ | (refine kQG ?_; (first | refine s_gyesQ rfl rfl rfl ?_ | refine s_gnoQ rfl rfl rfl rfl rfl ?_ | ((first | refine s_splitQ_d rfl rfl (fun h => ?_) (fun h => ?_) | refine s_splitQ_n rfl rfl (fun h => ?_) (fun h => ?_)) <;> (try (first | contradiction | (exfalso; omega)))) | refine s_splitQ_nb rfl rfl (fun h => ?_) (fun h => ?_) | refine s_splitQ rfl rfl (fun h => ?_) (fun h => ?_))) | refine lQ_then ?_ | refine lQ_ends ?_ | (refine kE ?_; (first | refine e_then_r ?_ | refine e_block_r ?_ | refine e_then_n ?_ | refine e_then_x ?_ | refine e_block_n ?_ | refine e_block_x ?_ | refine e_block_y rfl ?_)) | refine l_ends ?_)
  all_goals refine s_leave1 rfl rfl (fun w hw => ⟨?_, hw.below⟩)
  all_goals first | rfl | exact ret_true (by omega) | exact ret_false (by omega) | exact ret_dec (by omega)
theorem c_isPixel (x : Int) (w : World) : SYields Tryz.prog 49 #[.int .i64 x] (.bool (decide (0 ≤ x ∧ x ≤ 4294967295))) w := by
  (first | apply SYields.mk | apply SYieldsF.mk | skip); refine s_enter Tryz.func49 rfl Tryz.ntmps49 rfl ?_
  repeat' (first | exact rfl | (apply kO; (first | exact ov_pure rfl | (apply kOBin; (first | exact aBin)) | (apply kOCall; (first | (apply kCallF; (first | exact (ov_call rfl (fun w hw => c_within _ _ _ w)))) | (apply kCallB; (first | exact aBlt | exact aLenR)))) | (apply kOLoad; (first | exact aLdF | exact aLdR)) | exact ov_fieldAddr rfl | (apply kOIdx; (first | exact aIdx)) | exact aRest | exact aNew | exact (ov_field1 (ft := 31) rfl rfl rfl rfl))) | (refine kN ?_; (first | (refine kStore ?_; (first | refine s_store1 _ rfl rfl gpA rfl (by rfl) ?_ | refine s_storeS _ rfl rfl gpA rfl rfl (by rfl) ?_ | refine s_storeS _ rfl rfl gpA rfl (ones_img oiA) (by rfl) ?_)) | refine s_boxS rfl rfl (fun b hb => ?_) | refine s_allocS rfl (fun b hb => ?_) | refine s_box1 rfl rfl rfl (fun b hb => ?_) | refine s_alloc1 rfl rfl (fun b hb => ?_) | refine s_buildSlice0 rfl (fun b hb => ?_) | refine s_buildSlice rfl rfl rfl rfl rfl (fun b hb => ?_) | apply s_step)) | (refine kG ?_; (first | refine s_gyes rfl rfl rfl ?_ | refine s_gno rfl rfl rfl rfl rfl ?_ | ((first | refine s_split_d rfl rfl (fun h => ?_) (fun h => ?_) | refine s_split_n rfl rfl (fun h => ?_) (fun h => ?_)) <;> (try (first | contradiction | (exfalso; omega)))) | refine s_split_nb rfl rfl (fun h => ?_) (fun h => ?_) | refine s_split rfl rfl (fun h => ?_) (fun h => ?_))) | refine l_then ?_ | (refine kC ?_; (first | refine c_seq ?_ | refine c_regionN rfl ?_ | refine c_ret ?_ | (refine kCond ?_; (first | refine c_cond_t rfl ?_ | refine c_cond_f rfl ?_ | ((first | refine c_cond_d rfl (fun h => ?_) (fun h => ?_) | refine c_cond_n rfl (fun h => ?_) (fun h => ?_)) <;> (try (first | contradiction | (exfalso; omega)))) | refine c_cond_nb rfl (fun h => ?_) (fun h => ?_) | refine c_cond rfl (fun h => ?_) (fun h => ?_))) | refine c_block ?_ | refine c_skip ?_ | refine c_exit ?_ | refine c_regionQN rfl rfl (by decide +kernel) ?_)) | apply s_stepQ | (refine kQG ?_; (first | refine s_gyesQ rfl rfl rfl ?_ | refine s_gnoQ rfl rfl rfl rfl rfl ?_ | ((first | refine s_splitQ_d rfl rfl (fun h => ?_) (fun h => ?_) | refine s_splitQ_n rfl rfl (fun h => ?_) (fun h => ?_)) <;> (try (first | contradiction | (exfalso; omega)))) | refine s_splitQ_nb rfl rfl (fun h => ?_) (fun h => ?_) | refine s_splitQ rfl rfl (fun h => ?_) (fun h => ?_))) | refine lQ_then ?_ | refine lQ_ends ?_ | (refine kE ?_; (first | refine e_then_r ?_ | refine e_block_r ?_ | refine e_then_n ?_ | refine e_then_x ?_ | refine e_block_n ?_ | refine e_block_x ?_ | refine e_block_y rfl ?_)) | refine l_ends ?_)
  all_goals refine s_leave1 rfl rfl (fun w hw => ⟨?_, hw.below⟩)
  all_goals first | rfl | exact ret_true (by omega) | exact ret_false (by omega) | exact ret_dec (by omega)
theorem c_l04Pixel (x : Int) (w : World) : SYields Tryz.prog 95 #[.int .i64 x] (.bool (decide (0 ≤ x ∧ x ≤ 4294967295))) w := by
  (first | apply SYields.mk | apply SYieldsF.mk | skip); refine s_enter Tryz.func95 rfl Tryz.ntmps95 rfl ?_
  repeat' (first | exact rfl | (apply kO; (first | exact ov_pure rfl | (apply kOBin; (first | exact aBin)) | (apply kOCall; (first | (apply kCallF; (first | exact (ov_call rfl (fun w hw => c_l01In _ _ _ w)))) | (apply kCallB; (first | exact aBlt | exact aLenR)))) | (apply kOLoad; (first | exact aLdF | exact aLdR)) | exact ov_fieldAddr rfl | (apply kOIdx; (first | exact aIdx)) | exact aRest | exact aNew | exact (ov_field1 (ft := 31) rfl rfl rfl rfl))) | (refine kN ?_; (first | (refine kStore ?_; (first | refine s_store1 _ rfl rfl gpA rfl (by rfl) ?_ | refine s_storeS _ rfl rfl gpA rfl rfl (by rfl) ?_ | refine s_storeS _ rfl rfl gpA rfl (ones_img oiA) (by rfl) ?_)) | refine s_boxS rfl rfl (fun b hb => ?_) | refine s_allocS rfl (fun b hb => ?_) | refine s_box1 rfl rfl rfl (fun b hb => ?_) | refine s_alloc1 rfl rfl (fun b hb => ?_) | refine s_buildSlice0 rfl (fun b hb => ?_) | refine s_buildSlice rfl rfl rfl rfl rfl (fun b hb => ?_) | apply s_step)) | (refine kG ?_; (first | refine s_gyes rfl rfl rfl ?_ | refine s_gno rfl rfl rfl rfl rfl ?_ | ((first | refine s_split_d rfl rfl (fun h => ?_) (fun h => ?_) | refine s_split_n rfl rfl (fun h => ?_) (fun h => ?_)) <;> (try (first | contradiction | (exfalso; omega)))) | refine s_split_nb rfl rfl (fun h => ?_) (fun h => ?_) | refine s_split rfl rfl (fun h => ?_) (fun h => ?_))) | refine l_then ?_ | (refine kC ?_; (first | refine c_seq ?_ | refine c_regionN rfl ?_ | refine c_ret ?_ | (refine kCond ?_; (first | refine c_cond_t rfl ?_ | refine c_cond_f rfl ?_ | ((first | refine c_cond_d rfl (fun h => ?_) (fun h => ?_) | refine c_cond_n rfl (fun h => ?_) (fun h => ?_)) <;> (try (first | contradiction | (exfalso; omega)))) | refine c_cond_nb rfl (fun h => ?_) (fun h => ?_) | refine c_cond rfl (fun h => ?_) (fun h => ?_))) | refine c_block ?_ | refine c_skip ?_ | refine c_exit ?_ | refine c_regionQN rfl rfl (by decide +kernel) ?_)) | apply s_stepQ | (refine kQG ?_; (first | refine s_gyesQ rfl rfl rfl ?_ | refine s_gnoQ rfl rfl rfl rfl rfl ?_ | ((first | refine s_splitQ_d rfl rfl (fun h => ?_) (fun h => ?_) | refine s_splitQ_n rfl rfl (fun h => ?_) (fun h => ?_)) <;> (try (first | contradiction | (exfalso; omega)))) | refine s_splitQ_nb rfl rfl (fun h => ?_) (fun h => ?_) | refine s_splitQ rfl rfl (fun h => ?_) (fun h => ?_))) | refine lQ_then ?_ | refine lQ_ends ?_ | (refine kE ?_; (first | refine e_then_r ?_ | refine e_block_r ?_ | refine e_then_n ?_ | refine e_then_x ?_ | refine e_block_n ?_ | refine e_block_x ?_ | refine e_block_y rfl ?_)) | refine l_ends ?_)
  all_goals refine s_leave1 rfl rfl (fun w hw => ⟨?_, hw.below⟩)
  all_goals first | rfl | exact ret_true (by omega) | exact ret_false (by omega) | exact ret_dec (by omega)
end Go.Proofs.YtpcammhmgleonaaGreat
namespace Go.Proofs.YtpcammhmgleonaaGreat
open Go Sx
attribute [local irreducible] Exit.then Exit.inBlock bodyPost
end Go.Proofs.YtpcammhmgleonaaGreat
namespace Go.Proofs.YtpcammhmgleonaaGreat
open Go Sx
section
variable {n : Nat} {lo : SMut} {s : World} {ops : Array Oper} {Q : Exit → Act → World → Prop} {E : SEnv} {L : SHeap} {ty : TypeId} {pos : String} {after : Array Edge} {rest : List Oper}
theorem kWFn (f : FuncId) {P : Program} {aa : Array Operand} {ts : Array TypeId} {d : Option Tmp} {g : Option (Nat × Bool)} (h : WPL P n lo s ops Q (⟨d, .call { callee := .value (.func f), args := aa, argTypes := ts }, ty, pos, after, g⟩ :: rest) E L) : WPL P n lo s ops Q (⟨d, .call { callee := .value (.func f), args := aa, argTypes := ts }, ty, pos, after, g⟩ :: rest) E L := h
end
end Go.Proofs.YtpcammhmgleonaaGreat
namespace Go.Proofs.YtpcammhmgleonaaGreat
open Go Sx
attribute [local irreducible] Exit.then Exit.inBlock bodyPost
abbrev curP (bs : Value) (ci h : Int) (cb : Nat) : SPiece := [(cb, srow [bs, .int .i64 ci, .int .i64 h] 83)]
def NAp (cb : Nat) (bs : Value) (l : List Int) : Prop := 0 < l.length → (baseOf bs).1 ≠ cb
structure CDraw (cb : Nat) (bs : Value) (l : List Int) (w : World) : Prop where
  rd : RBytes w bs l
  ap : NAp cb bs l
theorem rbForm {w : World} {v : Value} {l : List Int} (h : RBytes w v l) : ∃ a c, v = .slice a l.length c := by
  obtain ⟨a, c, e, _⟩ := RRow.form h.1; exact ⟨a, c, e⟩
theorem keepC {cb : Nat} {bs : Value} {l : List Int} {lo : SMut} {s w : World} {L : SHeap} (h : CDraw cb bs l s) (hlo : lo = [cb]) (hw : SSt lo s L w) : CDraw cb bs l w := by
  refine ⟨?_, h.ap⟩
  by_cases hl : 0 < l.length
  · exact h.rd.keepM (by rw [hlo]; unfold Apart; simpa using h.ap hl) hw
  · exact ⟨⟨h.rd.1.form, h.rd.1.len, h.rd.1.size, fun i hi => absurd hi (by omega), h.rd.1.room⟩, h.rd.2⟩
theorem freshC {cb : Nat} {bs : Value} {l : List Int} {s w : World} {L : SHeap} {i : Nat} {ci ch : Int} (h : RBytes s bs l) (hw : SSt [] s L w) (hL : getL L i = some (curP bs ci ch cb)) : CDraw cb bs l w := by
  refine ⟨h.keep (hw.cells rfl), fun hl e => ?_⟩
  have h1 := h.1.cell 0 hl 0 _ rfl
  have h2 := World.block_lt_of_cell? s _ h1
  have h3 := (hw.blocks cb _ (getL_flat hL (List.mem_singleton.2 rfl))).1
  simp only [List.not_mem_nil, false_or] at h3
  dsimp only at h2
  omega
structure SDraw (P : Program) (f : FuncId) (args : Array Value) (cb : Nat) (bs : Value) (l : List Int) (Φ : Value → SPiece → Prop) (w : World) : Prop where
  run : ∀ (ci ch : Int), (0 ≤ ci ∧ ci ≤ l.length) → Holds w (curP bs ci ch cb) → (curP bs ci ch cb).keys.Nodup → SYieldsG P f args (curP bs ci ch cb) (fun u H' F => (∃ ci' ch' : Int, H' = curP bs ci' ch' cb ∧ 0 ≤ ci' ∧ ci' ≤ l.length) ∧ Φ u F) w
section
variable {P : Program} {n : Nat} {lo : SMut} {s : World} {ops : Array Oper} {Q : Exit → Act → World → Prop} {E : SEnv} {L : SHeap} {d : Nat} {ty : TypeId} {pos : String} {after : Array Edge} {rest : List Oper}
theorem s_draw (i : Nat) {f : FuncId} {args : List Operand} {ts : Array TypeId} {vs : List Value} {cb : Nat} {bs : Value} {l : List Int} {ci ch : Int} {Φ : Value → SPiece → Prop} [hf : SCallee P f]
    (ha : svals E args = some vs) (hL : getL L i = some (curP bs ci ch cb)) (hi : 0 ≤ ci ∧ ci ≤ l.length) (hc : ∀ w, SSt lo s L w → SDraw P f vs.toArray cb bs l Φ w) (hd : Nat.blt d n = true)
    (k : ∀ v (ci' ch' : Int) F, (0 ≤ ci' ∧ ci' ≤ l.length) → Φ v F → WPL P n lo s ops Q rest ((d, v) :: E) (F :: setL L i (curP bs ci' ch' cb))) :
    WPL P n lo s ops Q (⟨some d, .call { callee := .value (.func f), args := args.toArray, argTypes := ts }, ty, pos, after, none⟩ :: rest) E L :=
  s_callG i (fun u H' F => (∃ ci' ch' : Int, H' = curP bs ci' ch' cb ∧ 0 ≤ ci' ∧ ci' ≤ l.length) ∧ Φ u F) ha hL (fun w hw hh hn => (hc w hw).run ci ch hi hh hn) hd (fun v H' F hu => by
    obtain ⟨⟨ci', ch', rfl, hci⟩, hu⟩ := hu; exact k v ci' ch' F hci hu)
theorem w_heap {l : List Oper} {L' : SHeap} (h : ∀ w, SSt lo s L w → SSt lo s L' w) (k : WPL P n lo s ops Q l E L') : WPL P n lo s ops Q l E L := by
  unfold WPL at *
  exact fun a w ha hw => k a w ha (h w hw)
theorem s_drawV (i : Nat) {f : FuncId} {args : List Operand} {ts : Array TypeId} {vs : List Value} {cb : Nat} {bs : Value} {l : List Int} {ci ch : Int} {q : Value → Prop} [hf : SCallee P f]
    (ha : svals E args = some vs) (hL : getL L i = some (curP bs ci ch cb)) (hi : 0 ≤ ci ∧ ci ≤ l.length) (hc : ∀ w, SSt lo s L w → SDraw P f vs.toArray cb bs l (fun v F => q v ∧ F = []) w) (hd : Nat.blt d n = true)
    (k : ∀ v (ci' ch' : Int), (0 ≤ ci' ∧ ci' ≤ l.length) → q v → WPL P n lo s ops Q rest ((d, v) :: E) (setL L i (curP bs ci' ch' cb))) :
    WPL P n lo s ops Q (⟨some d, .call { callee := .value (.func f), args := args.toArray, argTypes := ts }, ty, pos, after, none⟩ :: rest) E L :=
  s_draw i ha hL hi hc hd (fun v ci' ch' F hci hu => by
    obtain ⟨hq, rfl⟩ := hu
    exact w_heap (fun w hw => hw.sub (List.Sublist.cons _ (List.Sublist.refl _))) (k v ci' ch' hci hq))
end
def isInt (lo hi : Int) (v : Value) : Prop := ∃ x, v = .int .i64 x ∧ lo ≤ x ∧ x ≤ hi
def isBool (v : Value) : Prop := ∃ x, v = .bool x
def xorI (i j : Int) : Int := IntKind.i64.wrap ((BitVec.ofInt 64 i ^^^ BitVec.ofInt 64 j).toNat : Int)
theorem ov_xorA {P : Program} {n : Nat} {lo : SMut} {s : World} {E : SEnv} {L : SHeap} {d : Option Tmp} {ty : TypeId} {pos : String} {after : Array Edge} {g : Option (Nat × Bool)} {x y : Operand} {xt yt : TypeId} {i j : Int}
    (hx : sval E x = some (.int .i64 i)) (hy : sval E y = some (.int .i64 j)) : SOpV P n lo s E L ⟨d, .binOp .xor xt x y yt, ty, pos, after, g⟩ (.int .i64 (xorI i j)) :=
  SOpV.of_run fun a ha w hw => by
    simp only [execOp, eqGuard, binOp, Op.intBits, ha.sval hx, ha.sval hy]
    rfl
theorem getD_mem {k : List Int} {j : Nat} (h : j < k.length) : k.getD j 0 ∈ k := by
  rw [List.getD_eq_getElem?_getD, List.getElem?_eq_getElem h]; exact List.getElem_mem h
set_option maxRecDepth 1000000 in
theorem c_l01New (v : Value) (l : List Int) (W : World) (hv : RBytes W v l) (hl : l.length ≤ 1048576) : SYieldsF Tryz.prog 17 #[v] (fun u H => ∃ cb ch, u = .pointer (some ⟨cb, 0, none⟩) ∧ H = curP v 0 ch cb) W := by
  have hv' := rbForm hv
  obtain ⟨_, _, rfl⟩ := hv'
  (first | apply SYields.mk | apply SYieldsF.mk | skip); refine s_enter Tryz.func17 rfl Tryz.ntmps17 rfl ?_
  repeat' (first | exact rfl | (apply kO; (first | exact ov_pure rfl | (apply kOBin; (first | exact aBin | exact (ov_mask 30 rfl rfl (by omega) (by omega)) | exact (ov_add rfl rfl (by have := hv.2 j.1 (by omega); rw [Int.toNat_natCast]; omega)))) | (apply kOCall; (first | (apply kCallB; (first | exact aBlt | exact aLenR)))) | (apply kOLoad; (first | exact aLdF | exact aLdR)) | exact ov_fieldAddr rfl | (apply kOIdx; (first | exact aIdx)) | exact aRest | exact (ov_conv rfl (by have := hv.2 j.1 (by omega); rw [Int.toNat_natCast]; omega)) | exact aNew | exact (ov_field1 (ft := 31) rfl rfl rfl rfl))) | (refine kN ?_; (first | (refine kStore ?_; (first | refine s_store1 _ rfl rfl gpA rfl (by rfl) ?_ | refine s_storeS _ rfl rfl gpA rfl rfl (by rfl) ?_ | refine s_storeS _ rfl rfl gpA rfl (ones_img oiA) (by rfl) ?_)) | refine s_boxS rfl rfl (fun b hb => ?_) | refine s_allocS rfl (fun b hb => ?_) | refine s_box1 rfl rfl rfl (fun b hb => ?_) | refine s_alloc1 rfl rfl (fun b hb => ?_) | refine s_buildSlice0 rfl (fun b hb => ?_) | refine s_buildSlice rfl rfl rfl rfl rfl (fun b hb => ?_) | apply s_step)) | (refine kG ?_; (first | refine s_gyes rfl rfl rfl ?_ | refine s_gno rfl rfl rfl rfl rfl ?_ | ((first | refine s_split_d rfl rfl (fun h => ?_) (fun h => ?_) | refine s_split_n rfl rfl (fun h => ?_) (fun h => ?_)) <;> (try (first | contradiction | (exfalso; omega)))) | refine s_split_nb rfl rfl (fun h => ?_) (fun h => ?_) | refine s_split rfl rfl (fun h => ?_) (fun h => ?_))) | refine l_then ?_ | (refine kC ?_; (first | (refine c_loopV (ι := Nat × Int) (fun j => j.1 ≤ l.length ∧ 0 ≤ j.2 ∧ j.2 ≤ 1073741823) (fun j => [(3, .int .i64 j.2), (4, .int .i64 (j.1 : Int))]) (fun _ => []) (fun j => l.length - j.1) (0, 33137 + (l.length : Int)) ⟨by dsimp only; omega, by dsimp only; omega⟩ rfl (fun _ => rfl) ⟨rfl, rfl, trivial⟩ (fun w hw => hw) (fun j hj => ?_)) | refine c_seq ?_ | refine c_regionN rfl ?_ | refine c_ret ?_ | (refine kCond ?_; (first | refine c_cond_t rfl ?_ | refine c_cond_f rfl ?_ | ((first | refine c_cond_d rfl (fun h => ?_) (fun h => ?_) | refine c_cond_n rfl (fun h => ?_) (fun h => ?_)) <;> (try (first | contradiction | (exfalso; omega)))) | refine c_cond_nb rfl (fun h => ?_) (fun h => ?_) | refine c_cond rfl (fun h => ?_) (fun h => ?_))) | refine c_block ?_ | refine c_skip ?_ | refine c_exit ?_ | refine c_regionQN rfl rfl (by decide +kernel) ?_)) | apply s_stepQ | (refine kQG ?_; (first | refine s_gyesQ rfl rfl rfl ?_ | refine s_gnoQ rfl rfl rfl rfl rfl ?_ | ((first | refine s_splitQ_d rfl rfl (fun h => ?_) (fun h => ?_) | refine s_splitQ_n rfl rfl (fun h => ?_) (fun h => ?_)) <;> (try (first | contradiction | (exfalso; omega)))) | refine s_splitQ_nb rfl rfl (fun h => ?_) (fun h => ?_) | refine s_splitQ rfl rfl (fun h => ?_) (fun h => ?_))) | refine lQ_then ?_ | refine lQ_ends ?_ | (refine kE ?_; (first | refine e_then_r ?_ | refine e_block_r ?_ | refine e_then_n ?_ | refine e_then_x ?_ | refine e_block_n ?_ | refine e_block_x ?_ | refine e_block_y rfl ?_)) | refine l_ends ?_)
  · exact e_round (j.1 + 1, _) ⟨by dsimp only; omega, by dsimp only; omega⟩ ⟨rfl, rfl, (by repeat' first | exact trivial | refine ⟨rfl, ?_⟩)⟩ (fun w hw => hw) (by dsimp only; omega)
  all_goals exact s_leave1 rfl rfl (fun w hw => ⟨_, _, rfl, ⟨_, _, rfl, rfl⟩, hw.toFresh (i := 0) rfl⟩)
theorem c_l01Byte (cb : Nat) (bs : Value) (l : List Int) (W : World) (hcd : CDraw cb bs l W) : SDraw Tryz.prog 44 #[.pointer (some ⟨cb, 0, none⟩)] cb bs l (fun v F => isInt 0 255 v ∧ F = []) W := by
  have hll := hcd.rd.1.len
  refine ⟨fun ci ch hci hH hn => SYieldsG.mk (s_enterM Tryz.func44 rfl Tryz.ntmps44 rfl hH hn ?_)⟩
  repeat' (first | exact rfl | (apply kO; (first | exact ov_pure rfl | (apply kOBin; (first | exact aBin | exact (ov_mulw rfl rfl) | exact (ov_addw rfl rfl) | exact (ov_add rfl rfl (by have := hcd.rd.2 ci.toNat (by omega); omega)))) | (apply kOCall; (first | (apply kCallB; (first | exact aBlt | exact (ov_lenR (fun w hw => (keepC hcd rfl hw).rd.1) rfl) | exact aLenR)))) | (apply kOLoad; (first | exact (ov_ldR0 (fun w hw => (keepC hcd rfl hw).rd.1) rfl rfl (by omega) rfl) | exact aLdF | exact aLdR)) | exact ov_fieldAddr rfl | (apply kOIdx; (first | exact (ov_idxR (fun w hw => (keepC hcd rfl hw).rd.1) rfl rfl (by omega)) | exact aIdx)) | exact aRest | exact (ov_xorA rfl rfl) | exact (ov_conv rfl (by have := hcd.rd.2 ci.toNat (by omega); omega)) | exact aNew | exact (ov_field1 (ft := 31) rfl rfl rfl rfl))) | (refine kN ?_; (first | (refine kStore ?_; (first | refine s_store1 _ rfl rfl gpA rfl (by rfl) ?_ | refine s_storeS _ rfl rfl gpA rfl rfl (by rfl) ?_ | refine s_storeS _ rfl rfl gpA rfl (ones_img oiA) (by rfl) ?_)) | refine s_boxS rfl rfl (fun b hb => ?_) | refine s_allocS rfl (fun b hb => ?_) | refine s_box1 rfl rfl rfl (fun b hb => ?_) | refine s_alloc1 rfl rfl (fun b hb => ?_) | refine s_buildSlice0 rfl (fun b hb => ?_) | refine s_buildSlice rfl rfl rfl rfl rfl (fun b hb => ?_) | apply s_step)) | (refine kG ?_; (first | refine s_gyes rfl rfl rfl ?_ | refine s_gno rfl rfl rfl rfl rfl ?_ | ((first | refine s_split_d rfl rfl (fun h => ?_) (fun h => ?_) | refine s_split_n rfl rfl (fun h => ?_) (fun h => ?_)) <;> (try (first | contradiction | (exfalso; omega)))) | refine s_split_nb rfl rfl (fun h => ?_) (fun h => ?_) | refine s_split rfl rfl (fun h => ?_) (fun h => ?_))) | refine l_then ?_ | (refine kC ?_; (first | refine c_seq ?_ | refine c_regionN rfl ?_ | refine c_ret ?_ | (refine kCond ?_; (first | refine c_cond_t rfl ?_ | refine c_cond_f rfl ?_ | ((first | refine c_cond_d rfl (fun h => ?_) (fun h => ?_) | refine c_cond_n rfl (fun h => ?_) (fun h => ?_)) <;> (try (first | contradiction | (exfalso; omega)))) | refine c_cond_nb rfl (fun h => ?_) (fun h => ?_) | refine c_cond rfl (fun h => ?_) (fun h => ?_))) | refine c_block ?_ | refine c_skip ?_ | refine c_exit ?_ | refine c_regionQN rfl rfl (by decide +kernel) ?_)) | apply s_stepQ | (refine kQG ?_; (first | refine s_gyesQ rfl rfl rfl ?_ | refine s_gnoQ rfl rfl rfl rfl rfl ?_ | ((first | refine s_splitQ_d rfl rfl (fun h => ?_) (fun h => ?_) | refine s_splitQ_n rfl rfl (fun h => ?_) (fun h => ?_)) <;> (try (first | contradiction | (exfalso; omega)))) | refine s_splitQ_nb rfl rfl (fun h => ?_) (fun h => ?_) | refine s_splitQ rfl rfl (fun h => ?_) (fun h => ?_))) | refine lQ_then ?_ | refine lQ_ends ?_ | (refine kE ?_; (first | refine e_then_r ?_ | refine e_block_r ?_ | refine e_then_n ?_ | refine e_then_x ?_ | refine e_block_n ?_ | refine e_block_x ?_ | refine e_block_y rfl ?_)) | refine l_ends ?_)
  all_goals exact s_leave1 rfl rfl (fun w hw => ⟨_, _, [], rfl, ⟨⟨_, _, rfl, by omega⟩, ⟨_, rfl, by omega⟩, rfl⟩, hw.lone⟩)
theorem c_l01Below (m : Int) (cb : Nat) (bs : Value) (l : List Int) (W : World) (hcd : CDraw cb bs l W) (hm : 1 ≤ m ∧ m ≤ 256) : SDraw Tryz.prog 19 #[.pointer (some ⟨cb, 0, none⟩), .int .i64 m] cb bs l (fun v F => isInt 0 (m - 1) v ∧ F = []) W := by
  refine ⟨fun ci ch hci hH hn => SYieldsG.mk (s_enterM Tryz.func19 rfl Tryz.ntmps19 rfl hH hn ?_)⟩
  repeat' (first | exact rfl | (apply kO; (first | exact ov_pure rfl | (apply kOBin; (first | exact aBin)) | (apply kOCall; (first | (apply kCallB; (first | exact aBlt | exact aLenR)))) | (apply kOLoad; (first | exact aLdF | exact aLdR)) | exact ov_fieldAddr rfl | (apply kOIdx; (first | exact aIdx)) | exact aRest | exact aNew | exact (ov_field1 (ft := 31) rfl rfl rfl rfl))) | (refine kN ?_; (first | (refine kCall ?_; (first | (refine kWFn 44 ?_; (refine s_drawV _ rfl gpA (by omega) (fun w hw => c_l01Byte cb bs l w (by first | exact keepC hcd rfl hw | exact freshC (by assumption) hw gpA)) rfl (fun v ci ch hci hu => ?_); obtain ⟨x, rfl, hx⟩ := hu)) | apply s_step)) | (refine kStore ?_; (first | refine s_store1 _ rfl rfl gpA rfl (by rfl) ?_ | refine s_storeS _ rfl rfl gpA rfl rfl (by rfl) ?_ | refine s_storeS _ rfl rfl gpA rfl (ones_img oiA) (by rfl) ?_)) | refine s_boxS rfl rfl (fun b hb => ?_) | refine s_allocS rfl (fun b hb => ?_) | refine s_box1 rfl rfl rfl (fun b hb => ?_) | refine s_alloc1 rfl rfl (fun b hb => ?_) | refine s_buildSlice0 rfl (fun b hb => ?_) | refine s_buildSlice rfl rfl rfl rfl rfl (fun b hb => ?_) | apply s_step)) | (refine kG ?_; (first | refine s_gyes rfl rfl rfl ?_ | refine s_gno rfl rfl rfl rfl rfl ?_ | ((first | refine s_split_d rfl rfl (fun h => ?_) (fun h => ?_) | refine s_split_n rfl rfl (fun h => ?_) (fun h => ?_)) <;> (try (first | contradiction | (exfalso; omega)))) | refine s_split_nb rfl rfl (fun h => ?_) (fun h => ?_) | refine s_split rfl rfl (fun h => ?_) (fun h => ?_))) | refine l_then ?_ | (refine kC ?_; (first | refine c_seq ?_ | refine c_regionN rfl ?_ | refine c_ret ?_ | (refine kCond ?_; (first | refine c_cond_t rfl ?_ | refine c_cond_f rfl ?_ | ((first | refine c_cond_d rfl (fun h => ?_) (fun h => ?_) | refine c_cond_n rfl (fun h => ?_) (fun h => ?_)) <;> (try (first | contradiction | (exfalso; omega)))) | refine c_cond_nb rfl (fun h => ?_) (fun h => ?_) | refine c_cond rfl (fun h => ?_) (fun h => ?_))) | refine c_block ?_ | refine c_skip ?_ | refine c_exit ?_ | refine c_regionQN rfl rfl (by decide +kernel) ?_)) | apply s_stepQ | (refine kQG ?_; (first | refine s_gyesQ rfl rfl rfl ?_ | refine s_gnoQ rfl rfl rfl rfl rfl ?_ | ((first | refine s_splitQ_d rfl rfl (fun h => ?_) (fun h => ?_) | refine s_splitQ_n rfl rfl (fun h => ?_) (fun h => ?_)) <;> (try (first | contradiction | (exfalso; omega)))) | refine s_splitQ_nb rfl rfl (fun h => ?_) (fun h => ?_) | refine s_splitQ rfl rfl (fun h => ?_) (fun h => ?_))) | refine lQ_then ?_ | refine lQ_ends ?_ | (refine kE ?_; (first | refine e_then_r ?_ | refine e_block_r ?_ | refine e_then_n ?_ | refine e_then_x ?_ | refine e_block_n ?_ | refine e_block_x ?_ | refine e_block_y rfl ?_)) | refine l_ends ?_)
  all_goals exact s_leave1 rfl rfl (fun w hw => ⟨_, _, [], rfl, ⟨⟨_, _, rfl, by omega⟩, ⟨_, rfl, by have h1 := Int.emod_nonneg x (b := m) (by omega); have h2 := Int.emod_lt_of_pos x (b := m) (by omega); omega⟩, rfl⟩, hw.lone⟩)
theorem c_l01Once (m : Int) (cb : Nat) (bs : Value) (l : List Int) (W : World) (hcd : CDraw cb bs l W) (hm : 1 ≤ m ∧ m ≤ 256) : SDraw Tryz.prog 82 #[.pointer (some ⟨cb, 0, none⟩), .int .i64 m] cb bs l (fun v F => isBool v ∧ F = []) W := by
  refine ⟨fun ci ch hci hH hn => SYieldsG.mk (s_enterM Tryz.func82 rfl Tryz.ntmps82 rfl hH hn ?_)⟩
  repeat' (first | exact rfl | (apply kO; (first | exact ov_pure rfl | (apply kOBin; (first | exact aBin)) | (apply kOCall; (first | (apply kCallB; (first | exact aBlt | exact aLenR)))) | (apply kOLoad; (first | exact aLdF | exact aLdR)) | exact ov_fieldAddr rfl | (apply kOIdx; (first | exact aIdx)) | exact aRest | exact aNew | exact (ov_field1 (ft := 31) rfl rfl rfl rfl))) | (refine kN ?_; (first | (refine kCall ?_; (first | (refine kWFn 19 ?_; (refine s_drawV _ rfl gpA (by omega) (fun w hw => c_l01Below _ cb bs l w (by first | exact keepC hcd rfl hw | exact freshC (by assumption) hw gpA) (by omega)) rfl (fun v ci ch hci hu => ?_); obtain ⟨x, rfl, hx⟩ := hu)) | apply s_step)) | (refine kStore ?_; (first | refine s_store1 _ rfl rfl gpA rfl (by rfl) ?_ | refine s_storeS _ rfl rfl gpA rfl rfl (by rfl) ?_ | refine s_storeS _ rfl rfl gpA rfl (ones_img oiA) (by rfl) ?_)) | refine s_boxS rfl rfl (fun b hb => ?_) | refine s_allocS rfl (fun b hb => ?_) | refine s_box1 rfl rfl rfl (fun b hb => ?_) | refine s_alloc1 rfl rfl (fun b hb => ?_) | refine s_buildSlice0 rfl (fun b hb => ?_) | refine s_buildSlice rfl rfl rfl rfl rfl (fun b hb => ?_) | apply s_step)) | (refine kG ?_; (first | refine s_gyes rfl rfl rfl ?_ | refine s_gno rfl rfl rfl rfl rfl ?_ | ((first | refine s_split_d rfl rfl (fun h => ?_) (fun h => ?_) | refine s_split_n rfl rfl (fun h => ?_) (fun h => ?_)) <;> (try (first | contradiction | (exfalso; omega)))) | refine s_split_nb rfl rfl (fun h => ?_) (fun h => ?_) | refine s_split rfl rfl (fun h => ?_) (fun h => ?_))) | refine l_then ?_ | (refine kC ?_; (first | refine c_seq ?_ | refine c_regionN rfl ?_ | refine c_ret ?_ | (refine kCond ?_; (first | refine c_cond_t rfl ?_ | refine c_cond_f rfl ?_ | ((first | refine c_cond_d rfl (fun h => ?_) (fun h => ?_) | refine c_cond_n rfl (fun h => ?_) (fun h => ?_)) <;> (try (first | contradiction | (exfalso; omega)))) | refine c_cond_nb rfl (fun h => ?_) (fun h => ?_) | refine c_cond rfl (fun h => ?_) (fun h => ?_))) | refine c_block ?_ | refine c_skip ?_ | refine c_exit ?_ | refine c_regionQN rfl rfl (by decide +kernel) ?_)) | apply s_stepQ | (refine kQG ?_; (first | refine s_gyesQ rfl rfl rfl ?_ | refine s_gnoQ rfl rfl rfl rfl rfl ?_ | ((first | refine s_splitQ_d rfl rfl (fun h => ?_) (fun h => ?_) | refine s_splitQ_n rfl rfl (fun h => ?_) (fun h => ?_)) <;> (try (first | contradiction | (exfalso; omega)))) | refine s_splitQ_nb rfl rfl (fun h => ?_) (fun h => ?_) | refine s_splitQ rfl rfl (fun h => ?_) (fun h => ?_))) | refine lQ_then ?_ | refine lQ_ends ?_ | (refine kE ?_; (first | refine e_then_r ?_ | refine e_block_r ?_ | refine e_then_n ?_ | refine e_then_x ?_ | refine e_block_n ?_ | refine e_block_x ?_ | refine e_block_y rfl ?_)) | refine l_ends ?_)
  all_goals exact s_leave1 rfl rfl (fun w hw => ⟨_, _, [], rfl, ⟨⟨_, _, rfl, by omega⟩, ⟨_, rfl⟩, rfl⟩, hw.lone⟩)
theorem c_l01PickInt (u : Value) (k : List Int) (cb : Nat) (bs : Value) (l : List Int) (W : World) (hcd : CDraw cb bs l W) (hu : RInts W u k) (hu2 : (baseOf u).1 ≠ cb) (hk : 1 ≤ k.length ∧ k.length ≤ 256) :
    SDraw Tryz.prog 78 #[.pointer (some ⟨cb, 0, none⟩), u] cb bs l (fun v F => (∃ x, v = .int .i64 x ∧ x ∈ k) ∧ F = []) W := by
  refine ⟨fun ci ch hci hH hn => SYieldsG.mk (s_enterM Tryz.func78 rfl Tryz.ntmps78 rfl hH hn ?_)⟩
  repeat' (first | exact rfl | (apply kO; (first | exact ov_pure rfl | (apply kOBin; (first | exact aBin)) | (apply kOCall; (first | (apply kCallB; (first | exact aBlt | exact (ov_lenR (fun w hw => hu.keepM (show Apart [cb] u by unfold Apart; simpa using hu2) hw) rfl) | exact aLenR)))) | (apply kOLoad; (first | exact (ov_ldR0 (fun w hw => hu.keepM (show Apart [cb] u by unfold Apart; simpa using hu2) hw) rfl rfl (by omega) rfl) | exact aLdF | exact aLdR)) | exact ov_fieldAddr rfl | (apply kOIdx; (first | exact (ov_idxR (fun w hw => hu.keepM (show Apart [cb] u by unfold Apart; simpa using hu2) hw) rfl rfl (by omega)) | exact aIdx)) | exact aRest | exact aNew | exact (ov_field1 (ft := 31) rfl rfl rfl rfl))) | (refine kN ?_; (first | (refine kCall ?_; (first | (refine kWFn 19 ?_; (refine s_drawV _ rfl gpA (by omega) (fun w hw => c_l01Below _ cb bs l w (by first | exact keepC hcd rfl hw | exact freshC (by assumption) hw gpA) (by omega)) rfl (fun v ci ch hci hu => ?_); obtain ⟨x, rfl, hx⟩ := hu)) | apply s_step)) | (refine kStore ?_; (first | refine s_store1 _ rfl rfl gpA rfl (by rfl) ?_ | refine s_storeS _ rfl rfl gpA rfl rfl (by rfl) ?_ | refine s_storeS _ rfl rfl gpA rfl (ones_img oiA) (by rfl) ?_)) | refine s_boxS rfl rfl (fun b hb => ?_) | refine s_allocS rfl (fun b hb => ?_) | refine s_box1 rfl rfl rfl (fun b hb => ?_) | refine s_alloc1 rfl rfl (fun b hb => ?_) | refine s_buildSlice0 rfl (fun b hb => ?_) | refine s_buildSlice rfl rfl rfl rfl rfl (fun b hb => ?_) | apply s_step)) | (refine kG ?_; (first | refine s_gyes rfl rfl rfl ?_ | refine s_gno rfl rfl rfl rfl rfl ?_ | ((first | refine s_split_d rfl rfl (fun h => ?_) (fun h => ?_) | refine s_split_n rfl rfl (fun h => ?_) (fun h => ?_)) <;> (try (first | contradiction | (exfalso; omega)))) | refine s_split_nb rfl rfl (fun h => ?_) (fun h => ?_) | refine s_split rfl rfl (fun h => ?_) (fun h => ?_))) | refine l_then ?_ | (refine kC ?_; (first | refine c_seq ?_ | refine c_regionN rfl ?_ | refine c_ret ?_ | (refine kCond ?_; (first | refine c_cond_t rfl ?_ | refine c_cond_f rfl ?_ | ((first | refine c_cond_d rfl (fun h => ?_) (fun h => ?_) | refine c_cond_n rfl (fun h => ?_) (fun h => ?_)) <;> (try (first | contradiction | (exfalso; omega)))) | refine c_cond_nb rfl (fun h => ?_) (fun h => ?_) | refine c_cond rfl (fun h => ?_) (fun h => ?_))) | refine c_block ?_ | refine c_skip ?_ | refine c_exit ?_ | refine c_regionQN rfl rfl (by decide +kernel) ?_)) | apply s_stepQ | (refine kQG ?_; (first | refine s_gyesQ rfl rfl rfl ?_ | refine s_gnoQ rfl rfl rfl rfl rfl ?_ | ((first | refine s_splitQ_d rfl rfl (fun h => ?_) (fun h => ?_) | refine s_splitQ_n rfl rfl (fun h => ?_) (fun h => ?_)) <;> (try (first | contradiction | (exfalso; omega)))) | refine s_splitQ_nb rfl rfl (fun h => ?_) (fun h => ?_) | refine s_splitQ rfl rfl (fun h => ?_) (fun h => ?_))) | refine lQ_then ?_ | refine lQ_ends ?_ | (refine kE ?_; (first | refine e_then_r ?_ | refine e_block_r ?_ | refine e_then_n ?_ | refine e_then_x ?_ | refine e_block_n ?_ | refine e_block_x ?_ | refine e_block_y rfl ?_)) | refine l_ends ?_)
  all_goals exact s_leave1 rfl rfl (fun w hw => ⟨_, _, [], rfl, ⟨⟨_, _, rfl, by omega⟩, ⟨_, rfl, getD_mem (by omega)⟩, rfl⟩, hw.lone⟩)
end Go.Proofs.YtpcammhmgleonaaGreat
namespace Sx

theorem getD_out {l : List Int} {i : Nat} (h : l.length ≤ i) : l.getD i 0 = 0 := by
  rw [List.getD_eq_getElem?_getD, List.getElem?_eq_none h]; rfl
def mixRow (m : DColor) (row : Nat) (r g b : Int) : Int :=
  max 0 (min ((m.mat.getD (3 * row) 0 * r + m.mat.getD (3 * row + 1) 0 * g + m.mat.getD (3 * row + 2) 0 * b + 128) / 256) 255)
def byteP (x : Int) : Prop := 0 ≤ x ∧ x ≤ 255
instance (x : Int) : Decidable (byteP x) := by unfold byteP; infer_instance
def pixP (x : Int) : Prop := 0 ≤ x ∧ x ≤ 4294967295
instance (x : Int) : Decidable (pixP x) := by unfold pixP; infer_instance
def mixChannels (m : DColor) (row r g b : Int) : Int := if m.ok ∧ (0 ≤ row ∧ row ≤ 2) ∧ byteP r ∧ byteP g ∧ byteP b then mixRow m row.toNat r g b else -1
def curveVal (m : DColor) (v : Int) : Int :=
  min 255 (m.curve.getD (v / 16).toNat 0 + ((m.curve.getD ((v / 16).toNat + 1) 0 - m.curve.getD (v / 16).toNat 0) * (v % 16)) / 16)
def curveAt (m : DColor) (v : Int) : Int := if m.ok ∧ byteP v then curveVal m v else -1
def colored (m : DColor) (p : Int) : Int :=
  ((chan p 0 * 256 + curveVal m (mixRow m 0 (chan p 1) (chan p 2) (chan p 3))) * 256 + curveVal m (mixRow m 1 (chan p 1) (chan p 2) (chan p 3))) * 256 + curveVal m (mixRow m 2 (chan p 1) (chan p 2) (chan p 3))
def colorPixel (m : DColor) (p : Int) : Int := if m.ok ∧ pixP p then colored m p else -1
def coloredTo (m : DColor) (p : Int) : Nat → Int
  | 0 => chan p 0
  | k + 1 => coloredTo m p k * 256 + curveVal m (mixRow m k (chan p 1) (chan p 2) (chan p 3))
structure DImg where
  W : Int
  H : Int
  data : List Int
deriving DecidableEq
theorem DImg.eq {a b : DImg} (h1 : a.W = b.W) (h2 : a.H = b.H) (h3 : a.data = b.data) : a = b := by cases a; cases b; simp_all
def DImg.zero : DImg := ⟨0, 0, []⟩
def DImg.ok (i : DImg) : Prop := (1 ≤ i.W ∧ i.W ≤ 16) ∧ (1 ≤ i.H ∧ i.H ≤ 16) ∧ (i.data.length : Int) = i.W * i.H ∧ inR 0 4294967295 i.data
instance (i : DImg) : Decidable i.ok := by unfold DImg.ok; infer_instance
theorem DImg.ok.len {i : DImg} (h : i.ok) : 1 ≤ i.data.length ∧ i.data.length ≤ 256 := by
  have := side_mul (w := i.W) (h := i.H) ⟨h.1.1, h.1.2, h.2.1.1, h.2.1.2⟩
  have := h.2.2.1
  omega
theorem inR_getD {lo hi : Int} {l : List Int} (h : inR lo hi l) (h0 : lo ≤ 0 ∧ 0 ≤ hi) (i : Nat) : lo ≤ l.getD i 0 ∧ l.getD i 0 ≤ hi := by
  by_cases hi : i < l.length
  · exact h i hi
  · rw [getD_out (by omega)]; exact h0
theorem DImg.ok.pix {i : DImg} (h : i.ok) (k : Nat) : 0 ≤ i.data.getD k 0 ∧ i.data.getD k 0 ≤ 4294967295 := inR_getD h.2.2.2 (by omega) k
def newImage (w h p : Int) : DImg := if (1 ≤ w ∧ w ≤ 16) ∧ (1 ≤ h ∧ h ≤ 16) ∧ pixP p then ⟨w, h, List.replicate (w * h).toNat p⟩ else DImg.zero
def colorImage (m : DColor) (i : DImg) : DImg := if m.ok ∧ i.ok then ⟨i.W, i.H, i.data.map (colored m)⟩ else DImg.zero
def ditherImage (i : DImg) : List Int := if i.ok then (List.range i.data.length).map (fun k : Nat => ditherPixel (i.data.getD k 0) ((k : Int) % i.W) ((k : Int) / i.W)) else []

def mapTo (f : Int → Int → Int) (w : Int) (n : Nat) : List Int := (List.range n).map (fun q : Nat => f ((q : Int) % w) ((q : Int) / w))
theorem mapTo_length (f : Int → Int → Int) (w : Int) (n : Nat) : (mapTo f w n).length = n := by simp [mapTo]
theorem mapTo_succ (f : Int → Int → Int) (w : Int) (n : Nat) : mapTo f w (n + 1) = mapTo f w n ++ [f ((n : Int) % w) ((n : Int) / w)] := by simp [mapTo, List.range_succ]
theorem row_mod {w x y : Int} (hx : 0 ≤ x ∧ x < w) (hy : 0 ≤ y) : (y * w + x) % w = x ∧ (y * w + x) / w = y := by
  have hw : w ≠ 0 := by omega
  constructor
  · rw [Int.add_comm, Int.add_mul_emod_self_right]; exact Int.emod_eq_of_lt hx.1 hx.2
  · rw [Int.add_comm, Int.add_mul_ediv_right _ _ hw, Int.ediv_eq_zero_of_lt hx.1 hx.2]; omega
def orientPt (w h o x y : Int) : Int × Int :=
  let x0 := if 4 ≤ o then w - 1 - x else x
  if o % 4 = 0 then (x0, y) else if o % 4 = 1 then (h - 1 - y, x0) else if o % 4 = 2 then (w - 1 - x0, h - 1 - y) else (y, w - 1 - x0)
def orientOk (w h o : Int) : Prop := (1 ≤ w ∧ w ≤ 16) ∧ (1 ≤ h ∧ h ≤ 16) ∧ (0 ≤ o ∧ o ≤ 7)
instance (w h o : Int) : Decidable (orientOk w h o) := by unfold orientOk; infer_instance
def orientPoint (w h o x y : Int) : Int × Int := if orientOk w h o ∧ (0 ≤ x ∧ x ≤ w - 1) ∧ (0 ≤ y ∧ y ≤ h - 1) then orientPt w h o x y else (-1, -1)
def orientSize (w h o : Int) : Int × Int := if orientOk w h o then (if o % 2 = 1 then (h, w) else (w, h)) else (0, 0)
def ofill (i : DImg) (o : Int) : Nat → List Int
  | 0 => List.replicate (i.W * i.H).toNat 0
  | k + 1 =>
    let q := orientPt i.W i.H o ((k : Int) % i.W) ((k : Int) / i.W)
    (ofill i o k).set (q.2 * (if o % 2 = 1 then i.H else i.W) + q.1).toNat (i.data.getD k 0)
theorem ofill_length (i : DImg) (o : Int) : ∀ k, (ofill i o k).length = (i.W * i.H).toNat
  | 0 => by simp [ofill]
  | k + 1 => by simp [ofill, ofill_length i o k]
theorem inR_set {lo hi : Int} {l : List Int} (h : inR lo hi l) {v : Int} (hv : lo ≤ v ∧ v ≤ hi) (k : Nat) : inR lo hi (l.set k v) := fun j hj => by
  rw [List.length_set] at hj
  rw [List.getD_eq_getElem?_getD, List.getElem?_set]
  split
  · split
    · simpa using hv
    · omega
  · have := h j hj
    rwa [List.getD_eq_getElem?_getD] at this
theorem inR_replicate {lo hi v : Int} (n : Nat) (hv : lo ≤ v ∧ v ≤ hi) : inR lo hi (List.replicate n v) := fun j hj => by
  rw [List.length_replicate] at hj
  rw [List.getD_eq_getElem?_getD, List.getElem?_replicate, if_pos hj]; simpa using hv
theorem ofill_pix {i : DImg} (h : i.ok) (o : Int) : ∀ k, inR 0 4294967295 (ofill i o k)
  | 0 => inR_replicate _ (by omega)
  | k + 1 => inR_set (ofill_pix h o k) (h.pix k) _
def oriented (i : DImg) (o : Int) : DImg :=
  if i.ok ∧ (0 ≤ o ∧ o ≤ 7) then ⟨(orientSize i.W i.H o).1, (orientSize i.W i.H o).2, ofill i o i.data.length⟩ else DImg.zero
theorem orientPt_bd {w h o x y : Int} (ho : orientOk w h o) (hx : 0 ≤ x ∧ x ≤ w - 1) (hy : 0 ≤ y ∧ y ≤ h - 1) :
    0 ≤ (orientPt w h o x y).1 ∧ (orientPt w h o x y).1 ≤ (if o % 2 = 1 then h else w) - 1 ∧ 0 ≤ (orientPt w h o x y).2 ∧ (orientPt w h o x y).2 ≤ (if o % 2 = 1 then w else h) - 1 := by
  unfold orientOk at ho
  unfold orientPt
  dsimp only
  by_cases h4 : 4 ≤ o
  · simp only [if_pos h4]
    (repeat' split) <;> dsimp only <;> omega
  · simp only [if_neg h4]
    (repeat' split) <;> dsimp only <;> omega
theorem oriented_ok {i : DImg} {o : Int} (h : i.ok) (ho : 0 ≤ o ∧ o ≤ 7) : (oriented i o).ok := by
  have hok : orientOk i.W i.H o := ⟨h.1, h.2.1, ho⟩
  have hsz := side_mul (w := i.W) (h := i.H) ⟨h.1.1, h.1.2, h.2.1.1, h.2.1.2⟩
  unfold oriented
  rw [if_pos ⟨h, ho⟩]
  unfold orientSize
  rw [if_pos hok]
  have hl := ofill_length i o i.data.length
  have h1 := h.1
  have h2 := h.2.1
  split
  · exact ⟨h2, h1, by dsimp only; rw [hl, Int.mul_comm i.H]; omega, ofill_pix h o _⟩
  · exact ⟨h1, h2, by dsimp only; rw [hl]; omega, ofill_pix h o _⟩

def oX (w h x y : Int) : Nat → Int
  | 0 => x
  | 1 => h - 1 - y
  | 2 => w - 1 - x
  | _ => y
def oY (w h x y : Int) : Nat → Int
  | 0 => y
  | 1 => x
  | 2 => h - 1 - y
  | _ => w - 1 - x
def oW (w h : Int) : Nat → Int
  | 0 => w
  | 1 => h
  | 2 => w
  | _ => h
theorem o_next (w h x y : Int) (k : Nat) (hk : k < 3) : oX w h x y (k + 1) = oW h w k - 1 - oY w h x y k ∧ oY w h x y (k + 1) = oX w h x y k ∧ oW w h (k + 1) = oW h w k ∧ oW h w (k + 1) = oW w h k := by
  match k, hk with
  | 0, _ => simp [oX, oY, oW]
  | 1, _ => simp [oX, oY, oW]
  | 2, _ => simp [oX, oY, oW]; omega
theorem o_bd {w h x y : Int} (hw : 1 ≤ w ∧ w ≤ 16) (hh : 1 ≤ h ∧ h ≤ 16) (hx : 0 ≤ x ∧ x ≤ w - 1) (hy : 0 ≤ y ∧ y ≤ h - 1) (k : Nat) :
    (0 ≤ oX w h x y k ∧ oX w h x y k ≤ 15) ∧ (0 ≤ oY w h x y k ∧ oY w h x y k ≤ 15) ∧ (1 ≤ oW w h k ∧ oW w h k ≤ 16) ∧ (1 ≤ oW h w k ∧ oW h w k ≤ 16) := by
  match k with
  | 0 => simp only [oX, oY, oW]; omega
  | 1 => simp only [oX, oY, oW]; omega
  | 2 => simp only [oX, oY, oW]; omega
  | k + 3 => simp only [oX, oY, oW]; omega
theorem orientPt_turns {w h o x y : Int} (ho : 0 ≤ o ∧ o ≤ 7) : orientPt w h o x y = (oX w h (if 4 ≤ o then w - 1 - x else x) y (o % 4).toNat, oY w h (if 4 ≤ o then w - 1 - x else x) y (o % 4).toNat) := by
  have hr : o % 4 = 0 ∨ o % 4 = 1 ∨ o % 4 = 2 ∨ o % 4 = 3 := by omega
  unfold orientPt
  dsimp only
  rcases hr with e | e | e | e
  · rw [e, if_pos rfl]; rfl
  · rw [e, if_neg (by omega), if_pos rfl]; rfl
  · rw [e, if_neg (by omega), if_neg (by omega), if_pos rfl]; rfl
  · rw [e, if_neg (by omega), if_neg (by omega), if_neg (by omega)]; rfl
def scalePoint (f t k : Int) : Int := if (1 ≤ f ∧ f ≤ 16) ∧ (1 ≤ t ∧ t ≤ 16) ∧ (0 ≤ k ∧ k ≤ t - 1) then k * f / t else -1
def scaleAt (i : DImg) (w h x y : Int) : Int := i.data.getD ((y * i.H / h) * i.W + x * i.W / w).toNat 0
def scaled (i : DImg) (w h : Int) : DImg :=
  if i.ok ∧ (1 ≤ w ∧ w ≤ 16) ∧ (1 ≤ h ∧ h ≤ 16) then ⟨w, h, (List.range (w * h).toNat).map (fun q : Nat => scaleAt i w h ((q : Int) % w) ((q : Int) / w))⟩ else DImg.zero
theorem inR_map_range {lo hi : Int} {f : Nat → Int} {n : Nat} (h : ∀ k, k < n → lo ≤ f k ∧ f k ≤ hi) : inR lo hi ((List.range n).map f) := fun j hj => by
  rw [List.length_map, List.length_range] at hj
  rw [List.getD_eq_getElem?_getD, List.getElem?_map, List.getElem?_range hj]
  exact h j hj
theorem scaled_ok {i : DImg} {w h : Int} (hi : i.ok) (hw : 1 ≤ w ∧ w ≤ 16) (hh : 1 ≤ h ∧ h ≤ 16) : (scaled i w h).ok := by
  have hsz := side_mul (w := w) (h := h) ⟨hw.1, hw.2, hh.1, hh.2⟩
  unfold scaled
  rw [if_pos ⟨hi, hw, hh⟩]
  refine ⟨hw, hh, ?_, inR_map_range fun k _ => hi.pix _⟩
  dsimp only
  rw [List.length_map, List.length_range]; omega

def prt (a b : Int) : Int := if byteP a ∧ byteP b then (a * b + 127) / 255 else -1
theorem prt_bd {a b : Int} (ha : byteP a) (hb : byteP b) : prt a b = (a * b + 127) / 255 ∧ 0 ≤ prt a b ∧ prt a b ≤ b := by
  unfold prt
  rw [if_pos ⟨ha, hb⟩]
  unfold byteP at ha hb
  have h1 : 0 ≤ a * b := Int.mul_nonneg ha.1 hb.1
  have h2 : a * b ≤ 255 * b := Int.mul_le_mul_of_nonneg_right ha.2 hb.1
  omega
def fade (p a : Int) : Int := if pixP p ∧ byteP a then prt (chan p 0) a * 16777216 + p % 16777216 else -1
def over (t b : Int) : Int :=
  if pixP t ∧ pixP b then
    ((255 * 256 + (prt (chan t 1) (chan t 0) + prt (chan b 1) (255 - chan t 0))) * 256 + (prt (chan t 2) (chan t 0) + prt (chan b 2) (255 - chan t 0))) * 256 + (prt (chan t 3) (chan t 0) + prt (chan b 3) (255 - chan t 0))
  else -1
theorem fade_bd {p a : Int} (hp : pixP p) (ha : byteP a) : 0 ≤ fade p a ∧ fade p a ≤ 4294967295 := by
  have h := prt_bd (chan_bd p 0) ha
  unfold fade
  rw [if_pos ⟨hp, ha⟩]
  unfold byteP at ha
  omega
theorem over_bd {t b : Int} (ht : pixP t) (hb : pixP b) : 4278190080 ≤ over t b ∧ over t b ≤ 4294967295 := by
  have h255 : byteP (255 - chan t 0) := by have := chan_bd t 0; unfold byteP; omega
  have h1 := fun k => prt_bd (chan_bd t k) (chan_bd t 0)
  have h2 := fun k => prt_bd (chan_bd b k) h255
  have a1 := h1 1; have a2 := h1 2; have a3 := h1 3
  have b1 := h2 1; have b2 := h2 2; have b3 := h2 3
  have h0 := chan_bd t 0
  unfold over
  rw [if_pos ⟨ht, hb⟩]
  omega

structure DRect where
  X : Int
  Y : Int
  W : Int
  H : Int
deriving DecidableEq
def DRect.zero : DRect := ⟨0, 0, 0, 0⟩
def DRect.ok (r : DRect) : Prop := (-1000 ≤ r.X ∧ r.X ≤ 1000) ∧ (-1000 ≤ r.Y ∧ r.Y ≤ 1000) ∧ (0 ≤ r.W ∧ r.W ≤ 1000) ∧ (0 ≤ r.H ∧ r.H ≤ 1000)
instance (r : DRect) : Decidable r.ok := by unfold DRect.ok; infer_instance
def DRect.inter (a b : DRect) : DRect :=
  if a.ok ∧ b.ok then
    (if min (a.X + a.W) (b.X + b.W) - max a.X b.X ≤ 0 ∨ min (a.Y + a.H) (b.Y + b.H) - max a.Y b.Y ≤ 0 then DRect.zero
     else ⟨max a.X b.X, max a.Y b.Y, min (a.X + a.W) (b.X + b.W) - max a.X b.X, min (a.Y + a.H) (b.Y + b.H) - max a.Y b.Y⟩)
  else DRect.zero
theorem DRect.inter_ok {a b : DRect} (ha : a.ok) (hb : b.ok) : (a.inter b).ok ∧ (a.inter b).W ≤ b.W ∧ (a.inter b).H ≤ b.H ∧ (a.inter b).W ≤ a.W ∧ (a.inter b).H ≤ a.H := by
  unfold DRect.inter
  rw [if_pos ⟨ha, hb⟩]
  unfold DRect.ok at *
  split
  · dsimp only [DRect.zero]; omega
  · dsimp only; omega
def DRect.has (r : DRect) (x y : Int) : Prop := r.ok ∧ r.X ≤ x ∧ x < r.X + r.W ∧ r.Y ≤ y ∧ y < r.Y + r.H
instance (r : DRect) (x y : Int) : Decidable (r.has x y) := by unfold DRect.has; infer_instance

structure DSurf where
  Id : Int
  X : Int
  Y : Int
  W : Int
  H : Int
  Alpha : Int
  Orient : Int
  Visible : Bool
  buf : DImg
deriving DecidableEq
theorem DSurf.eq {a b : DSurf} (h1 : a.Id = b.Id) (h2 : a.X = b.X) (h3 : a.Y = b.Y) (h4 : a.W = b.W) (h5 : a.H = b.H) (h6 : a.Alpha = b.Alpha) (h7 : a.Orient = b.Orient) (h8 : a.Visible = b.Visible) (h9 : a.buf = b.buf) : a = b := by cases a; cases b; simp_all
def DSurf.zero : DSurf := ⟨0, 0, 0, 0, 0, 0, 0, false, DImg.zero⟩
instance : Inhabited DSurf := ⟨DSurf.zero⟩
def DSurf.sized (s : DSurf) : Prop := (1 ≤ s.W ∧ s.W ≤ 16) ∧ (1 ≤ s.H ∧ s.H ≤ 16) ∨ s.W = 0 ∧ s.H = 0
instance (s : DSurf) : Decidable s.sized := by unfold DSurf.sized; infer_instance
def DSurf.ok (s : DSurf) : Prop := (1 ≤ s.Id ∧ s.Id ≤ 99) ∧ (-32 ≤ s.X ∧ s.X ≤ 32) ∧ (-32 ≤ s.Y ∧ s.Y ≤ 32) ∧ s.sized ∧ byteP s.Alpha ∧ (0 ≤ s.Orient ∧ s.Orient ≤ 7) ∧ s.buf.ok
instance (s : DSurf) : Decidable s.ok := by unfold DSurf.ok; infer_instance
structure DScene where
  W : Int
  H : Int
  Back : Int
  ss : List DSurf
deriving DecidableEq
theorem opaque_iff (p : Int) : 0 ≤ p ∧ p ≤ 4294967295 ∧ (p / 2 ^ (24 - 8 * (0 : Int)).toNat) % 2 ^ 8 = 255 ↔ 4278190080 ≤ p ∧ p ≤ 4294967295 := by
  have : (24 - 8 * (0 : Int)).toNat = 24 := rfl
  rw [this]; omega
def opaqueP (p : Int) : Prop := pixP p ∧ chan p 0 = 255
instance (p : Int) : Decidable (opaqueP p) := by unfold opaqueP; infer_instance
theorem opaqueP_iff (p : Int) : opaqueP p ↔ 4278190080 ≤ p ∧ p ≤ 4294967295 := by
  rw [← opaque_iff]; unfold opaqueP pixP chan; constructor <;> (intro h; omega)
def surfsOk (l : List DSurf) (n : Nat) : Prop := ∀ i, i < n → (l.getD i default).ok ∧ ∀ j, j < i → (l.getD j default).Id ≠ (l.getD i default).Id
instance (l : List DSurf) (n : Nat) : Decidable (surfsOk l n) := inferInstanceAs (Decidable (∀ i, i < n → _))
def DScene.ok (s : DScene) : Prop := (1 ≤ s.W ∧ s.W ≤ 16) ∧ (1 ≤ s.H ∧ s.H ≤ 16) ∧ opaqueP s.Back ∧ s.ss.length ≤ 6 ∧ surfsOk s.ss s.ss.length
instance (s : DScene) : Decidable s.ok := by unfold DScene.ok; infer_instance
def surfIdx (l : List DSurf) (id : Int) : Nat → Nat → Int
  | 0, _ => -1
  | f + 1, k => if k < l.length then (if (l.getD k default).Id = id then (k : Int) else surfIdx l id f (k + 1)) else -1
def surfaceIndex (l : List DSurf) (id : Int) : Int := surfIdx l id l.length 0
theorem surfIdx_found {l : List DSurf} {id : Int} : ∀ (f k j : Nat), k ≤ j → j < l.length → j - k < f → (∀ i, k ≤ i → i < j → (l.getD i default).Id ≠ id) → (l.getD j default).Id = id → surfIdx l id f k = j
  | 0, k, j, _, _, h, _, _ => by omega
  | f + 1, k, j, h1, h2, h3, h4, h5 => by
    unfold surfIdx
    rw [if_pos (by omega)]
    by_cases e : k = j
    · subst e; rw [if_pos h5]
    · rw [if_neg (h4 k (Nat.le_refl _) (by omega))]
      exact surfIdx_found f (k + 1) j (by omega) h2 (by omega) (fun i hi => h4 i (by omega)) h5
theorem surfIdx_none {l : List DSurf} {id : Int} : ∀ (f k : Nat), (∀ i, k ≤ i → i < l.length → (l.getD i default).Id ≠ id) → surfIdx l id f k = -1
  | 0, k, _ => rfl
  | f + 1, k, h => by
    unfold surfIdx
    split
    · rw [if_neg (h k (Nat.le_refl _) (by assumption))]
      exact surfIdx_none f (k + 1) (fun i hi => h i (by omega))
    · rfl
theorem surfaceIndex_found {l : List DSurf} {id : Int} {j : Nat} (hj : j < l.length) (h : ∀ i, i < j → (l.getD i default).Id ≠ id) (he : (l.getD j default).Id = id) : surfaceIndex l id = j :=
  surfIdx_found _ 0 j (by omega) hj (by omega) (fun i _ => h i) he
theorem surfaceIndex_none {l : List DSurf} {id : Int} (h : ∀ i, i < l.length → (l.getD i default).Id ≠ id) : surfaceIndex l id = -1 := surfIdx_none _ 0 (fun i _ => h i)
theorem first_or {p : Nat → Prop} [DecidablePred p] : ∀ n, (∀ i, i < n → ¬ p i) ∨ ∃ j, j < n ∧ p j ∧ ∀ i, i < j → ¬ p i
  | 0 => .inl (fun i hi => by omega)
  | n + 1 => by
    rcases first_or (p := p) n with h | ⟨j, h1, h2, h3⟩
    · by_cases hp : p n
      · exact .inr ⟨n, by omega, hp, h⟩
      · exact .inl (fun i hi => by
          by_cases e : i = n
          · subst e; exact hp
          · exact h i (by omega))
    · exact .inr ⟨j, by omega, h2, h3⟩
theorem surfaceIndex_bd (l : List DSurf) (id : Int) : surfaceIndex l id = -1 ∧ (∀ i, i < l.length → (l.getD i default).Id ≠ id) ∨ ∃ j : Nat, surfaceIndex l id = j ∧ j < l.length ∧ (l.getD j default).Id = id ∧ ∀ i, i < j → (l.getD i default).Id ≠ id := by
  rcases first_or (p := fun i => (l.getD i default).Id = id) l.length with h | ⟨j, h1, h2, h3⟩
  · exact .inl ⟨surfaceIndex_none h, h⟩
  · exact .inr ⟨j, surfaceIndex_found h1 h3 h2, h1, h2, h3⟩
theorem surfaceIndex_self {l : List DSurf} {k : Nat} (hk : k < l.length) : surfaceIndex l (l.getD k default).Id = k ↔ ∀ i, i < k → (l.getD i default).Id ≠ (l.getD k default).Id := by
  constructor
  · intro h
    rcases surfaceIndex_bd l (l.getD k default).Id with ⟨h1, _⟩ | ⟨j, h1, h2, h3, h4⟩
    · omega
    · have : j = k := by omega
      subst this; exact h4
  · intro h; exact surfaceIndex_found hk h rfl
theorem surfsOk_zero (l : List DSurf) : surfsOk l 0 := fun i hi => by omega
theorem surfsOk_next {l : List DSurf} {j : Nat} (h : surfsOk l j) (h1 : (l.getD j default).ok) (h2 : ∀ i, i < j → (l.getD i default).Id ≠ (l.getD j default).Id) : surfsOk l (j + 1) := fun i hi => by
  by_cases e : i = j
  · subst e; exact ⟨h1, h2⟩
  · exact h i (by omega)
def idsTo (l : List DSurf) (j : Nat) : List Int := (List.range j).map (fun i => (l.getD i default).Id)
theorem idsTo_succ (l : List DSurf) (j : Nat) : idsTo l (j + 1) = idsTo l j ++ [(l.getD j default).Id] := by simp [idsTo, List.range_succ]
theorem mem_idsTo {l : List DSurf} {j : Nat} {x : Int} : x ∈ idsTo l j ↔ ∃ i, i < j ∧ (l.getD i default).Id = x := by simp [idsTo]
def fadedImg (i : DImg) (a : Int) : DImg := ⟨i.W, i.H, i.data.map (fun p => fade p a)⟩
def rawPicture (s : DSurf) : DImg := if s.W ≠ 0 then scaled (oriented s.buf s.Orient) s.W s.H else oriented s.buf s.Orient
def pictureOf (s : DSurf) : DImg := if s.ok then fadedImg (rawPicture s) s.Alpha else DImg.zero
def surfSize (s : DSurf) : Int × Int := if s.W ≠ 0 then (s.W, s.H) else orientSize s.buf.W s.buf.H s.Orient
def surfRect (s : DSurf) : DRect := if s.ok ∧ s.Visible = true then ⟨s.X, s.Y, (surfSize s).1, (surfSize s).2⟩ else DRect.zero
def isOpaqueS (s : DSurf) : Prop := s.ok ∧ inR 4278190080 4294967295 (pictureOf s).data
instance (s : DSurf) : Decidable (isOpaqueS s) := by unfold isOpaqueS; infer_instance
def costTo (s : DScene) : Nat → Int
  | 0 => s.W * s.H
  | k + 1 => costTo s k + ((surfRect (s.ss.getD k default)).inter ⟨0, 0, s.W, s.H⟩).W * ((surfRect (s.ss.getD k default)).inter ⟨0, 0, s.W, s.H⟩).H
def paintCost (s : DScene) : Int := if s.ok then costTo s s.ss.length else 0
theorem rawPicture_ok {s : DSurf} (h : s.ok) : (rawPicture s).ok := by
  have h1 := oriented_ok h.2.2.2.2.2.2 h.2.2.2.2.2.1
  have h2 := h.2.2.2.1
  unfold rawPicture
  unfold DSurf.sized at h2
  split
  · exact scaled_ok h1 (by omega) (by omega)
  · exact h1
theorem fadedImg_ok {i : DImg} {a : Int} (h : i.ok) (ha : byteP a) : (fadedImg i a).ok := by
  refine ⟨h.1, h.2.1, by simpa [fadedImg] using h.2.2.1, fun k hk => ?_⟩
  simp only [fadedImg, List.length_map] at hk
  have : (fadedImg i a).data.getD k 0 = fade (i.data.getD k 0) a := by
    simp [fadedImg, List.getD_eq_getElem?_getD, List.getElem?_map, List.getElem?_eq_getElem hk]
  rw [this]
  exact fade_bd (h.pix k) ha
theorem pictureOf_ok {s : DSurf} (h : s.ok) : (pictureOf s).ok := by
  unfold pictureOf; rw [if_pos h]; exact fadedImg_ok (rawPicture_ok h) h.2.2.2.2.1

def sumTo (f : Nat → Nat) : Nat → Nat
  | 0 => 0
  | k + 1 => sumTo f k + f k
theorem sumTo_mono (f : Nat → Nat) {i : Nat} : ∀ {n : Nat}, i ≤ n → sumTo f i ≤ sumTo f n
  | 0, h => by have : i = 0 := by omega
               subst this; exact Nat.le_refl _
  | n + 1, h => by
    by_cases e : i = n + 1
    · subst e; exact Nat.le_refl _
    · have := sumTo_mono f (i := i) (n := n) (by omega)
      simp only [sumTo]; omega
theorem le_sumTo (f : Nat → Nat) {i n : Nat} (h : i < n) : f i ≤ sumTo f n := by
  have := sumTo_mono f (i := i + 1) (n := n) (by omega)
  simp only [sumTo] at this; omega
def surfsLen (l : List DSurf) : Nat := l.length + sumTo (fun i => (l.getD i default).buf.data.length) l.length
def iota (k : Int) (n : Nat) : List Int := (List.range n).map (fun i : Nat => k + (i : Int))
def markTo (l : List Int) (k : Int) (j : Nat) : List Int := iota k j ++ l.drop j
def heldI (l : List Int) (k : Int) : Int := if l = iota k l.length then k + l.length else -1
def heldTo (l : List Int) (k : Int) (j : Nat) : Prop := ∀ i, i < j → l.getD i 0 = k + i
end Sx
namespace Go.Proofs.YtpcammhmgleonaaGreat
open Go Sx
abbrev cImg (i : DImg) (d : Value) : List Value := [.int .i64 i.W, .int .i64 i.H, d]
abbrev vImg (i : DImg) (d : Value) : Value := .agg #[.int .i64 i.W, .int .i64 i.H, d]
def OImg (u : Value) (i : DImg) (H : SPiece) : Prop := ∃ d, u = vImg i d ∧ OInts 3 d i.data H
def eImg : SElem DImg where
  k := 3
  dflt := DImg.zero
  cells := cImg
  klen := fun _ _ => rfl
  rd := fun w d i => RInts w d i.data
  own := fun d i H => OInts 3 d i.data H
  keep := fun h hw => RInts.keep h hw
  reads := fun h hw => OInts.reads h hw
theorem eImg_dflt : eImg.dflt = DImg.zero := rfl
abbrev cRect (r : DRect) : List Value := [.int .i64 r.X, .int .i64 r.Y, .int .i64 r.W, .int .i64 r.H]
abbrev vRect (r : DRect) : Value := .agg #[.int .i64 r.X, .int .i64 r.Y, .int .i64 r.W, .int .i64 r.H]
abbrev vColor (a b : Value) : Value := .agg #[a, b]
abbrev cSurf (s : DSurf) (d : Value) : List Value := [.int .i64 s.Id, .int .i64 s.X, .int .i64 s.Y, .int .i64 s.W, .int .i64 s.H, .int .i64 s.Alpha, .int .i64 s.Orient, .bool s.Visible, .int .i64 s.buf.W, .int .i64 s.buf.H, d]
abbrev vSurf (s : DSurf) (d : Value) : Value := .agg #[.int .i64 s.Id, .int .i64 s.X, .int .i64 s.Y, .int .i64 s.W, .int .i64 s.H, .int .i64 s.Alpha, .int .i64 s.Orient, .bool s.Visible, .int .i64 s.buf.W, .int .i64 s.buf.H, d]
def OSurf (u : Value) (s : DSurf) (H : SPiece) : Prop := ∃ d, u = vSurf s d ∧ OInts 3 d s.buf.data H
def eSurf : SElem DSurf where
  k := 11
  dflt := default
  cells := cSurf
  klen := fun _ _ => rfl
  rd := fun w d s => RInts w d s.buf.data
  own := fun d s H => OInts 3 d s.buf.data H
  keep := fun h hw => RInts.keep h hw
  reads := fun h hw => OInts.reads h hw
theorem eSurf_ones {s : DSurf} {d : Value} (h : d.oneCell' = true) : oneCells (eSurf.cells s d) = true :=
  ones_cons rfl (ones_cons rfl (ones_cons rfl (ones_cons rfl (ones_cons rfl (ones_cons rfl (ones_cons rfl (ones_cons rfl (ones_cons rfl (ones_cons rfl (ones_cons h rfl))))))))))
theorem eSurf_dflt : eSurf.dflt = default := rfl
abbrev vScene (s : DScene) (v : Value) : Value := .agg #[.int .i64 s.W, .int .i64 s.H, .int .i64 s.Back, v]
end Go.Proofs.YtpcammhmgleonaaGreat
namespace Go.Proofs.YtpcammhmgleonaaGreat
open Go Sx
attribute [local irreducible] Exit.then Exit.inBlock bodyPost
theorem c_clone (v : Value) (l : List Int) (w : World) (hv : RInts w v l) (hl : l.length ≤ 1000000000) : SYieldsF Tryz.prog 61 #[v] (fun u H => OInts 3 u l H) w := by
  have hv' := hv.form
  obtain ⟨a, c, rfl⟩ := hv'
  cases a with
  | none =>
    have h0 : l = [] := by
      obtain ⟨a, c', he, hf⟩ := RRow.form hv
      by_cases hn : 0 < l.length
      · obtain ⟨b, o, rfl⟩ := hf hn; cases he
      · exact List.eq_nil_of_length_eq_zero (by omega)
    (first | apply SYields.mk | apply SYieldsF.mk | skip); refine s_enter Tryz.func61 rfl Tryz.ntmps61 rfl ?_
    repeat' (first | exact rfl | (apply kO; (first | exact ov_pure rfl | (apply kOBin; (first | exact aBin)) | (apply kOCall; (first | (apply kCallB; (first | exact aBlt | exact aLenR)))) | (apply kOLoad; (first | exact aLdF | exact aLdR)) | exact ov_fieldAddr rfl | (apply kOIdx; (first | exact aIdx)) | exact aRest | exact aNew | exact (ov_field1 (ft := 31) rfl rfl rfl rfl))) | (refine kN ?_; (first | (refine kStore ?_; (first | refine s_store1 _ rfl rfl gpA rfl (by rfl) ?_ | refine s_storeS _ rfl rfl gpA rfl rfl (by rfl) ?_ | refine s_storeS _ rfl rfl gpA rfl (ones_img oiA) (by rfl) ?_)) | refine s_boxS rfl rfl (fun b hb => ?_) | refine s_allocS rfl (fun b hb => ?_) | refine s_box1 rfl rfl rfl (fun b hb => ?_) | refine s_alloc1 rfl rfl (fun b hb => ?_) | refine s_buildSlice0 rfl (fun b hb => ?_) | refine s_buildSlice rfl rfl rfl rfl rfl (fun b hb => ?_) | apply s_step)) | (refine kG ?_; (first | refine s_gyes rfl rfl rfl ?_ | refine s_gno rfl rfl rfl rfl rfl ?_ | ((first | refine s_split_d rfl rfl (fun h => ?_) (fun h => ?_) | refine s_split_n rfl rfl (fun h => ?_) (fun h => ?_)) <;> (try (first | contradiction | (exfalso; omega)))) | refine s_split_nb rfl rfl (fun h => ?_) (fun h => ?_) | refine s_split rfl rfl (fun h => ?_) (fun h => ?_))) | refine l_then ?_ | (refine kC ?_; (first | refine c_seq ?_ | refine c_regionN rfl ?_ | refine c_ret ?_ | (refine kCond ?_; (first | refine c_cond_t rfl ?_ | refine c_cond_f rfl ?_ | ((first | refine c_cond_d rfl (fun h => ?_) (fun h => ?_) | refine c_cond_n rfl (fun h => ?_) (fun h => ?_)) <;> (try (first | contradiction | (exfalso; omega)))) | refine c_cond_nb rfl (fun h => ?_) (fun h => ?_) | refine c_cond rfl (fun h => ?_) (fun h => ?_))) | refine c_block ?_ | refine c_skip ?_ | refine c_exit ?_ | refine c_regionQN rfl rfl (by decide +kernel) ?_)) | apply s_stepQ | (refine kQG ?_; (first | refine s_gyesQ rfl rfl rfl ?_ | refine s_gnoQ rfl rfl rfl rfl rfl ?_ | ((first | refine s_splitQ_d rfl rfl (fun h => ?_) (fun h => ?_) | refine s_splitQ_n rfl rfl (fun h => ?_) (fun h => ?_)) <;> (try (first | contradiction | (exfalso; omega)))) | refine s_splitQ_nb rfl rfl (fun h => ?_) (fun h => ?_) | refine s_splitQ rfl rfl (fun h => ?_) (fun h => ?_))) | refine lQ_then ?_ | refine lQ_ends ?_ | (refine kE ?_; (first | refine e_then_r ?_ | refine e_block_r ?_ | refine e_then_n ?_ | refine e_then_x ?_ | refine e_block_n ?_ | refine e_block_x ?_ | refine e_block_y rfl ?_)) | refine l_ends ?_)
    all_goals refine s_leave1 rfl rfl (fun w hw => ⟨_, [], rfl, ?_, hw.toFresh0⟩)
    all_goals (rw [h0]; exact OInts.nil _)
  | some A =>
    (first | apply SYields.mk | apply SYieldsF.mk | skip); refine s_enter Tryz.func61 rfl Tryz.ntmps61 rfl ?_
    repeat' (first | exact rfl | (apply kO; (first | exact ov_pure rfl | (apply kOBin; (first | exact aBin)) | (apply kOCall; (first | (apply kCallB; (first | exact aBlt | exact aLenR)))) | (apply kOLoad; (first | exact aLdF | exact aLdR)) | exact ov_fieldAddr rfl | (apply kOIdx; (first | exact aIdx)) | exact aRest | exact aNew | exact (ov_field1 (ft := 31) rfl rfl rfl rfl))) | (refine kN ?_; (first | (refine kCall ?_; (first | (refine kWApp ?_; (refine s_append 0 (ys := ivals l) (m := l.length) rfl rfl (OVec.empty 1 3 _) rfl rfl (by decide) (by simp [ivals]) (oneCells_ivals l) (fun w hw => ⟨_, _, rfl, RInts.src (hv.keep (hw.cells rfl))⟩) (by omega) (by omega) rfl (fun v' H' hv' => ?_))) | apply s_step)) | (refine kStore ?_; (first | refine s_store1 _ rfl rfl gpA rfl (by rfl) ?_ | refine s_storeS _ rfl rfl gpA rfl rfl (by rfl) ?_ | refine s_storeS _ rfl rfl gpA rfl (ones_img oiA) (by rfl) ?_)) | refine s_boxS rfl rfl (fun b hb => ?_) | refine s_allocS rfl (fun b hb => ?_) | refine s_box1 rfl rfl rfl (fun b hb => ?_) | refine s_alloc1 rfl rfl (fun b hb => ?_) | refine s_buildSlice0 rfl (fun b hb => ?_) | refine s_buildSlice rfl rfl rfl rfl rfl (fun b hb => ?_) | apply s_step)) | (refine kG ?_; (first | refine s_gyes rfl rfl rfl ?_ | refine s_gno rfl rfl rfl rfl rfl ?_ | ((first | refine s_split_d rfl rfl (fun h => ?_) (fun h => ?_) | refine s_split_n rfl rfl (fun h => ?_) (fun h => ?_)) <;> (try (first | contradiction | (exfalso; omega)))) | refine s_split_nb rfl rfl (fun h => ?_) (fun h => ?_) | refine s_split rfl rfl (fun h => ?_) (fun h => ?_))) | refine l_then ?_ | (refine kC ?_; (first | refine c_seq ?_ | refine c_regionN rfl ?_ | refine c_ret ?_ | (refine kCond ?_; (first | refine c_cond_t rfl ?_ | refine c_cond_f rfl ?_ | ((first | refine c_cond_d rfl (fun h => ?_) (fun h => ?_) | refine c_cond_n rfl (fun h => ?_) (fun h => ?_)) <;> (try (first | contradiction | (exfalso; omega)))) | refine c_cond_nb rfl (fun h => ?_) (fun h => ?_) | refine c_cond rfl (fun h => ?_) (fun h => ?_))) | refine c_block ?_ | refine c_skip ?_ | refine c_exit ?_ | refine c_regionQN rfl rfl (by decide +kernel) ?_)) | apply s_stepQ | (refine kQG ?_; (first | refine s_gyesQ rfl rfl rfl ?_ | refine s_gnoQ rfl rfl rfl rfl rfl ?_ | ((first | refine s_splitQ_d rfl rfl (fun h => ?_) (fun h => ?_) | refine s_splitQ_n rfl rfl (fun h => ?_) (fun h => ?_)) <;> (try (first | contradiction | (exfalso; omega)))) | refine s_splitQ_nb rfl rfl (fun h => ?_) (fun h => ?_) | refine s_splitQ rfl rfl (fun h => ?_) (fun h => ?_))) | refine lQ_then ?_ | refine lQ_ends ?_ | (refine kE ?_; (first | refine e_then_r ?_ | refine e_block_r ?_ | refine e_then_n ?_ | refine e_then_x ?_ | refine e_block_n ?_ | refine e_block_x ?_ | refine e_block_y rfl ?_)) | refine l_ends ?_)
    all_goals refine s_leave1 rfl rfl (fun w hw => ⟨_, _, rfl, ?_, hw.toFresh (i := 0) rfl⟩)
    all_goals simpa [OInts] using hv'
theorem c_copyImage (i : DImg) (e : Value) (w : World) (hv : RInts w e i.data) (hl : i.data.length ≤ 1000000000) : SYieldsF Tryz.prog 62 #[vImg i e] (fun u H => OImg u i H) w := by
  (first | apply SYields.mk | apply SYieldsF.mk | skip); refine s_enter Tryz.func62 rfl Tryz.ntmps62 rfl ?_
  repeat' (first | exact rfl | (apply kO; (first | exact ov_pure rfl | (apply kOBin; (first | exact aBin)) | (apply kOCall; (first | (apply kCallB; (first | exact aBlt | exact aLenR)))) | (apply kOLoad; (first | exact aLdF | exact aLdR)) | exact ov_fieldAddr rfl | (apply kOIdx; (first | exact aIdx)) | exact aRest | exact aNew | exact (ov_field1 (ft := 31) rfl rfl rfl rfl))) | (refine kN ?_; (first | (refine kCall ?_; (first | (refine kWFunc ?_; (refine s_callF (fun u H => OInts 3 u i.data H) rfl (fun w hw => c_clone _ _ w (riA hw) hl) rfl (fun u H hu => ?_); have f1 := hu.form; obtain ⟨_, _, rfl⟩ := f1)) | apply s_step)) | (refine kStore ?_; (first | refine s_store1 _ rfl rfl gpA rfl (by rfl) ?_ | refine s_storeS _ rfl rfl gpA rfl rfl (by rfl) ?_ | refine s_storeS _ rfl rfl gpA rfl (ones_img oiA) (by rfl) ?_)) | refine s_boxS rfl rfl (fun b hb => ?_) | refine s_allocS rfl (fun b hb => ?_) | refine s_box1 rfl rfl rfl (fun b hb => ?_) | refine s_alloc1 rfl rfl (fun b hb => ?_) | refine s_buildSlice0 rfl (fun b hb => ?_) | refine s_buildSlice rfl rfl rfl rfl rfl (fun b hb => ?_) | apply s_step)) | (refine kG ?_; (first | refine s_gyes rfl rfl rfl ?_ | refine s_gno rfl rfl rfl rfl rfl ?_ | ((first | refine s_split_d rfl rfl (fun h => ?_) (fun h => ?_) | refine s_split_n rfl rfl (fun h => ?_) (fun h => ?_)) <;> (try (first | contradiction | (exfalso; omega)))) | refine s_split_nb rfl rfl (fun h => ?_) (fun h => ?_) | refine s_split rfl rfl (fun h => ?_) (fun h => ?_))) | (refine kS ?_; (first | refine h_exec rfl ?_ | refine h_take_nil rfl rfl rfl ?_ | refine h_take_pick rfl rfl rfl ?_ | refine h_nil ?_ | refine h_alt ?_ ?_ | apply h_take)) | (refine kBack ?_; (first | refine h_back_last rfl ?_ | refine h_backN rfl subA ?_)) | refine l_then ?_ | (refine kC ?_; (first | (refine kReg 1 ?_; refine c_regionSN (SPlan.take 0 (SPlan.take 1 (SPlan.take 2 (SPlan.take 3 (SPlan.take 4 (SPlan.take 5 (SPlan.run 6 (SPlan.take 7 (SPlan.run 8 SPlan.done))))))))) (some 8) rfl rfl (by decide +kernel) ?_) | (refine kReg 1 ?_; refine c_regionSN (SPlan.take 0 (SPlan.take 1 (SPlan.take 2 (SPlan.take 3 (SPlan.take 4 (SPlan.take 5 (SPlan.run 6 (SPlan.take 7 (SPlan.run 8 SPlan.done))))))))) none rfl rfl (by decide +kernel) ?_) | refine c_seq ?_ | refine c_regionN rfl ?_ | refine c_ret ?_ | (refine kCond ?_; (first | refine c_cond_t rfl ?_ | refine c_cond_f rfl ?_ | ((first | refine c_cond_d rfl (fun h => ?_) (fun h => ?_) | refine c_cond_n rfl (fun h => ?_) (fun h => ?_)) <;> (try (first | contradiction | (exfalso; omega)))) | refine c_cond_nb rfl (fun h => ?_) (fun h => ?_) | refine c_cond rfl (fun h => ?_) (fun h => ?_))) | refine c_block ?_ | refine c_skip ?_ | refine c_exit ?_ | refine c_regionQN rfl rfl (by decide +kernel) ?_)) | apply s_stepQ | (refine kQG ?_; (first | refine s_gyesQ rfl rfl rfl ?_ | refine s_gnoQ rfl rfl rfl rfl rfl ?_ | ((first | refine s_splitQ_d rfl rfl (fun h => ?_) (fun h => ?_) | refine s_splitQ_n rfl rfl (fun h => ?_) (fun h => ?_)) <;> (try (first | contradiction | (exfalso; omega)))) | refine s_splitQ_nb rfl rfl (fun h => ?_) (fun h => ?_) | refine s_splitQ rfl rfl (fun h => ?_) (fun h => ?_))) | refine lQ_then ?_ | refine lQ_ends ?_ | (refine kE ?_; (first | refine e_then_r ?_ | refine e_block_r ?_ | refine e_then_n ?_ | refine e_then_x ?_ | refine e_block_n ?_ | refine e_block_x ?_ | refine e_block_y rfl ?_)) | refine l_ends ?_)
  all_goals (refine kE ?_; refine s_leaveSF rfl rfl rfl fwA (fun w hw => ?_))
  exact ⟨_, _, rfl, ⟨_, rfl, by assumption⟩, hw.toFresh (i := 0) rfl⟩
theorem c_l05Copy (i : DImg) (e : Value) (w : World) (hv : RInts w e i.data) (hl : i.data.length ≤ 1000000000) : SYieldsF Tryz.prog 54 #[vImg i e] (fun u H => OImg u i H) w := by
  have hv' := hv.form
  obtain ⟨a, c, rfl⟩ := hv'
  cases a with
  | none =>
    have h0 : i.data = [] := by
      obtain ⟨a, c', he, hf⟩ := RRow.form hv
      by_cases hn : 0 < i.data.length
      · obtain ⟨b, o, rfl⟩ := hf hn; cases he
      · exact List.eq_nil_of_length_eq_zero (by omega)
    have hc0 : i.data.length = 0 := by rw [h0]; rfl
    rw [show Value.slice none i.data.length c = .slice none 0 c by rw [hc0]]
    (first | apply SYields.mk | apply SYieldsF.mk | skip); refine s_enter Tryz.func54 rfl Tryz.ntmps54 rfl ?_
    repeat' (first | exact rfl | (apply kO; (first | exact ov_pure rfl | (apply kOBin; (first | exact aBin)) | (apply kOCall; (first | (apply kCallB; (first | exact aBlt | exact (ov_appendNil rfl rfl (by omega)) | exact aLenR)))) | (apply kOLoad; (first | exact aLdF | exact aLdR)) | exact ov_fieldAddr rfl | (apply kOIdx; (first | exact aIdx)) | exact aRest | exact aNew | exact (ov_field1 (ft := 31) rfl rfl rfl rfl))) | (refine kN ?_; (first | (refine kStore ?_; (first | refine s_store1 _ rfl rfl gpA rfl (by rfl) ?_ | refine s_storeS _ rfl rfl gpA rfl rfl (by rfl) ?_ | refine s_storeS _ rfl rfl gpA rfl (ones_img oiA) (by rfl) ?_)) | refine s_boxS rfl rfl (fun b hb => ?_) | refine s_allocS rfl (fun b hb => ?_) | refine s_box1 rfl rfl rfl (fun b hb => ?_) | refine s_alloc1 rfl rfl (fun b hb => ?_) | refine s_buildSlice0 rfl (fun b hb => ?_) | refine s_buildSlice rfl rfl rfl rfl rfl (fun b hb => ?_) | apply s_step)) | (refine kG ?_; (first | refine s_gyes rfl rfl rfl ?_ | refine s_gno rfl rfl rfl rfl rfl ?_ | ((first | refine s_split_d rfl rfl (fun h => ?_) (fun h => ?_) | refine s_split_n rfl rfl (fun h => ?_) (fun h => ?_)) <;> (try (first | contradiction | (exfalso; omega)))) | refine s_split_nb rfl rfl (fun h => ?_) (fun h => ?_) | refine s_split rfl rfl (fun h => ?_) (fun h => ?_))) | (refine kS ?_; (first | refine h_exec rfl ?_ | refine h_take_nil rfl rfl rfl ?_ | refine h_take_pick rfl rfl rfl ?_ | refine h_nil ?_ | refine h_alt ?_ ?_ | apply h_take)) | (refine kBack ?_; (first | refine h_back_last rfl ?_ | refine h_backN rfl subA ?_)) | refine l_then ?_ | (refine kC ?_; (first | (refine kReg 1 ?_; refine c_regionSN (SPlan.take 0 (SPlan.take 1 (SPlan.take 2 (SPlan.take 3 (SPlan.take 5 (SPlan.take 6 (SPlan.run 4 (SPlan.run 7 (SPlan.take 8 (SPlan.run 9 SPlan.done)))))))))) (some 9) rfl rfl (by decide +kernel) ?_) | (refine kReg 1 ?_; refine c_regionSN (SPlan.take 0 (SPlan.take 1 (SPlan.take 2 (SPlan.take 3 (SPlan.take 5 (SPlan.take 6 (SPlan.run 4 (SPlan.run 7 (SPlan.take 8 (SPlan.run 9 SPlan.done)))))))))) none rfl rfl (by decide +kernel) ?_) | refine c_seq ?_ | refine c_regionN rfl ?_ | refine c_ret ?_ | (refine kCond ?_; (first | refine c_cond_t rfl ?_ | refine c_cond_f rfl ?_ | ((first | refine c_cond_d rfl (fun h => ?_) (fun h => ?_) | refine c_cond_n rfl (fun h => ?_) (fun h => ?_)) <;> (try (first | contradiction | (exfalso; omega)))) | refine c_cond_nb rfl (fun h => ?_) (fun h => ?_) | refine c_cond rfl (fun h => ?_) (fun h => ?_))) | refine c_block ?_ | refine c_skip ?_ | refine c_exit ?_ | refine c_regionQN rfl rfl (by decide +kernel) ?_)) | apply s_stepQ | (refine kQG ?_; (first | refine s_gyesQ rfl rfl rfl ?_ | refine s_gnoQ rfl rfl rfl rfl rfl ?_ | ((first | refine s_splitQ_d rfl rfl (fun h => ?_) (fun h => ?_) | refine s_splitQ_n rfl rfl (fun h => ?_) (fun h => ?_)) <;> (try (first | contradiction | (exfalso; omega)))) | refine s_splitQ_nb rfl rfl (fun h => ?_) (fun h => ?_) | refine s_splitQ rfl rfl (fun h => ?_) (fun h => ?_))) | refine lQ_then ?_ | refine lQ_ends ?_ | (refine kE ?_; (first | refine e_then_r ?_ | refine e_block_r ?_ | refine e_then_n ?_ | refine e_then_x ?_ | refine e_block_n ?_ | refine e_block_x ?_ | refine e_block_y rfl ?_)) | refine l_ends ?_)
    all_goals (refine kE ?_; refine s_leaveSF rfl rfl rfl fwA (fun w hw => ?_))
    all_goals exact ⟨_, _, rfl, ⟨_, rfl, by rw [h0]; exact OVec.empty 1 3 _⟩, hw.toFresh (i := 0) rfl⟩
  | some A =>
    (first | apply SYields.mk | apply SYieldsF.mk | skip); refine s_enter Tryz.func54 rfl Tryz.ntmps54 rfl ?_
    repeat' (first | exact rfl | (apply kO; (first | exact ov_pure rfl | (apply kOBin; (first | exact aBin)) | (apply kOCall; (first | (apply kCallB; (first | exact aBlt | exact aLenR)))) | (apply kOLoad; (first | exact aLdF | exact aLdR)) | exact ov_fieldAddr rfl | (apply kOIdx; (first | exact aIdx)) | exact aRest | exact aNew | exact (ov_field1 (ft := 31) rfl rfl rfl rfl))) | (refine kN ?_; (first | (refine kCall ?_; (first | (refine kWApp ?_; (refine s_append 0 (ys := ivals i.data) (m := i.data.length) rfl rfl (OVec.empty 1 3 _) rfl rfl (by decide) (by simp [ivals]) (oneCells_ivals i.data) (fun w hw => ⟨_, _, rfl, RInts.src (hv.keep (hw.cells rfl))⟩) (by omega) (by omega) rfl (fun v' H' hv' => ?_); have f1 := hv'.form; obtain ⟨_, _, rfl⟩ := f1)) | apply s_step)) | (refine kStore ?_; (first | refine s_store1 _ rfl rfl gpA rfl (by rfl) ?_ | refine s_storeS _ rfl rfl gpA rfl rfl (by rfl) ?_ | refine s_storeS _ rfl rfl gpA rfl (ones_img oiA) (by rfl) ?_)) | refine s_boxS rfl rfl (fun b hb => ?_) | refine s_allocS rfl (fun b hb => ?_) | refine s_box1 rfl rfl rfl (fun b hb => ?_) | refine s_alloc1 rfl rfl (fun b hb => ?_) | refine s_buildSlice0 rfl (fun b hb => ?_) | refine s_buildSlice rfl rfl rfl rfl rfl (fun b hb => ?_) | apply s_step)) | (refine kG ?_; (first | refine s_gyes rfl rfl rfl ?_ | refine s_gno rfl rfl rfl rfl rfl ?_ | ((first | refine s_split_d rfl rfl (fun h => ?_) (fun h => ?_) | refine s_split_n rfl rfl (fun h => ?_) (fun h => ?_)) <;> (try (first | contradiction | (exfalso; omega)))) | refine s_split_nb rfl rfl (fun h => ?_) (fun h => ?_) | refine s_split rfl rfl (fun h => ?_) (fun h => ?_))) | (refine kS ?_; (first | refine h_exec rfl ?_ | refine h_take_nil rfl rfl rfl ?_ | refine h_take_pick rfl rfl rfl ?_ | refine h_nil ?_ | refine h_alt ?_ ?_ | apply h_take)) | (refine kBack ?_; (first | refine h_back_last rfl ?_ | refine h_backN rfl subA ?_)) | refine l_then ?_ | (refine kC ?_; (first | (refine kReg 1 ?_; refine c_regionSN (SPlan.take 0 (SPlan.take 1 (SPlan.take 2 (SPlan.take 3 (SPlan.take 5 (SPlan.take 6 (SPlan.run 4 (SPlan.run 7 (SPlan.take 8 (SPlan.run 9 SPlan.done)))))))))) (some 9) rfl rfl (by decide +kernel) ?_) | (refine kReg 1 ?_; refine c_regionSN (SPlan.take 0 (SPlan.take 1 (SPlan.take 2 (SPlan.take 3 (SPlan.take 5 (SPlan.take 6 (SPlan.run 4 (SPlan.run 7 (SPlan.take 8 (SPlan.run 9 SPlan.done)))))))))) none rfl rfl (by decide +kernel) ?_) | refine c_seq ?_ | refine c_regionN rfl ?_ | refine c_ret ?_ | (refine kCond ?_; (first | refine c_cond_t rfl ?_ | refine c_cond_f rfl ?_ | ((first | refine c_cond_d rfl (fun h => ?_) (fun h => ?_) | refine c_cond_n rfl (fun h => ?_) (fun h => ?_)) <;> (try (first | contradiction | (exfalso; omega)))) | refine c_cond_nb rfl (fun h => ?_) (fun h => ?_) | refine c_cond rfl (fun h => ?_) (fun h => ?_))) | refine c_block ?_ | refine c_skip ?_ | refine c_exit ?_ | refine c_regionQN rfl rfl (by decide +kernel) ?_)) | apply s_stepQ | (refine kQG ?_; (first | refine s_gyesQ rfl rfl rfl ?_ | refine s_gnoQ rfl rfl rfl rfl rfl ?_ | ((first | refine s_splitQ_d rfl rfl (fun h => ?_) (fun h => ?_) | refine s_splitQ_n rfl rfl (fun h => ?_) (fun h => ?_)) <;> (try (first | contradiction | (exfalso; omega)))) | refine s_splitQ_nb rfl rfl (fun h => ?_) (fun h => ?_) | refine s_splitQ rfl rfl (fun h => ?_) (fun h => ?_))) | refine lQ_then ?_ | refine lQ_ends ?_ | (refine kE ?_; (first | refine e_then_r ?_ | refine e_block_r ?_ | refine e_then_n ?_ | refine e_then_x ?_ | refine e_block_n ?_ | refine e_block_x ?_ | refine e_block_y rfl ?_)) | refine l_ends ?_)
    all_goals (refine kE ?_; refine s_leaveSF rfl rfl rfl fwA (fun w hw => ?_))
    all_goals exact ⟨_, _, rfl, ⟨_, rfl, by simpa [OInts] using hv'⟩, hw.toFresh (i := 0) rfl⟩
def Gives (P : Program) (g : FuncId) (cap : List Value) (φ : Int → Int → Int) (w h : Int) (w0 : World) : Prop :=
  ∀ x y : Int, (0 ≤ x ∧ x < w) → (0 ≤ y ∧ y < h) → ∀ w', RowKit.Below w0.heap.size w0 w' → SYields P g (([Value.int .i64 x, Value.int .i64 y] : List Value) ++ cap).toArray (.int .i64 (φ x y)) w'
theorem mapTo_row {φ : Int → Int → Int} {w : Int} (hw : 1 ≤ w) (y x : Nat) (hx : (x : Int) < w) : mapTo φ w (y * w.toNat + x) ++ [φ x y] = mapTo φ w (y * w.toNat + (x + 1)) := by
  have e : ((y * w.toNat + x : Nat) : Int) = (y : Int) * w + x := by push_cast; rw [Int.toNat_of_nonneg (by omega)]
  have h := row_mod (w := w) (x := x) (y := y) (by omega) (by omega)
  rw [← Nat.add_assoc, mapTo_succ, e, h.1, h.2]
theorem c_mapImage (pw ph : Int) (g : FuncId) (cap : List Value) (φ : Int → Int → Int) (W : World) [SCallee Tryz.prog g] (hw0 : 1 ≤ pw ∧ pw ≤ 16) (hh0 : 1 ≤ ph ∧ ph ≤ 16) (hg : Gives Tryz.prog g cap φ pw ph W) :
    SYieldsF Tryz.prog 118 #[.int .i64 pw, .int .i64 ph, .func (.func g) #[] cap.toArray] (fun u H => OImg u ⟨pw, ph, mapTo φ pw (pw * ph).toNat⟩ H) W := by
  have hwh := side_mul (w := pw) (h := ph) ⟨hw0.1, hw0.2, hh0.1, hh0.2⟩
  have hrow : ∀ y : Nat, (y : Int) ≤ ph → y * pw.toNat ≤ 256 := fun y hy => by
    have := Nat.mul_le_mul (show y ≤ 16 by omega) (show pw.toNat ≤ 16 by omega); omega
  (first | apply SYields.mk | apply SYieldsF.mk | skip); refine s_enter Tryz.func118 rfl Tryz.ntmps118 rfl ?_
  repeat' (first | exact rfl | (apply kO; (first | exact ov_pure rfl | (apply kOBin; (first | exact aBin)) | (apply kOCall; (first | (apply kCallV; exact (ov_callV rfl rfl (fun w hw => hg _ _ (by omega) (by omega) w hw.below))) | (apply kCallB; (first | exact aBlt | exact aLenR)))) | (apply kOLoad; (first | exact aLdF | exact aLdR)) | exact ov_fieldAddr rfl | (apply kOIdx; (first | exact aIdx)) | exact aRest | exact aNew | exact (ov_field1 (ft := 31) rfl rfl rfl rfl))) | (refine kN ?_; (first | (refine kCall ?_; (first | (refine kWApp ?_; (refine s_appendI _ _ (ys := [_]) rfl rfl (by assumption) gpA gpA rfl rfl (by rw [mapTo_length]; have := hrow j.1 (by omega); omega) (by decide) rfl (fun v' H' hv' => ?_); have f1 := hv'.form; obtain ⟨ua, uc, rfl⟩ := f1)) | apply s_step)) | (refine kStore ?_; (first | refine s_store1 _ rfl rfl gpA rfl (by rfl) ?_ | refine s_storeS _ rfl rfl gpA rfl rfl (by rfl) ?_ | refine s_storeS _ rfl rfl gpA rfl (ones_img oiA) (by rfl) ?_)) | refine s_boxS rfl rfl (fun b hb => ?_) | refine s_allocS rfl (fun b hb => ?_) | refine s_box1 rfl rfl rfl (fun b hb => ?_) | refine s_alloc1 rfl rfl (fun b hb => ?_) | (refine kWMake ?_; (refine s_make1 rfl rfl rfl ⟨by omega, by omega, by omega⟩ (by omega) rfl (fun b hb => ?_))) | refine s_buildSlice0 rfl (fun b hb => ?_) | refine s_buildSlice rfl rfl rfl rfl rfl (fun b hb => ?_) | apply s_step)) | (refine kG ?_; (first | refine s_gyes rfl rfl rfl ?_ | refine s_gno rfl rfl rfl rfl rfl ?_ | ((first | refine s_split_d rfl rfl (fun h => ?_) (fun h => ?_) | refine s_split_n rfl rfl (fun h => ?_) (fun h => ?_)) <;> (try (first | contradiction | (exfalso; omega)))) | refine s_split_nb rfl rfl (fun h => ?_) (fun h => ?_) | refine s_split rfl rfl (fun h => ?_) (fun h => ?_))) | (refine kS ?_; (first | refine h_exec rfl ?_ | refine h_take_nil rfl rfl rfl ?_ | refine h_take_pick rfl rfl rfl ?_ | refine h_nil ?_ | refine h_alt ?_ ?_ | apply h_take)) | (refine kBack ?_; (first | refine h_back_last rfl ?_ | refine h_backN rfl subA ?_)) | refine l_then ?_ | (refine kC ?_; (first | (refine kReg 8 ?_; refine c_regionSubN (SPlan.take 0 (SPlan.take 1 (SPlan.take 2 (SPlan.take 3 (SPlan.take 4 (SPlan.run 5 (SPlan.run 6 (SPlan.run 7 (SPlan.take 8 (SPlan.run 9 SPlan.done)))))))))) (some 9) [true, false, true] rfl rfl rfl (by decide +kernel) ?_) | (refine c_loopV (ι := Nat × Value × SPiece) (fun j => (j.1 : Int) ≤ ph ∧ OInts 3 j.2.1 (mapTo φ pw (j.1 * pw.toNat)) j.2.2) (fun j => [(18, .int .i64 (j.1 : Int))]) (fun j => [[(_, srow [.int .i64 pw, .int .i64 ph, j.2.1] 49)], j.2.2, _]) (fun j => ph.toNat - j.1) (0, _, _) ⟨by dsimp only; omega, by dsimp only; rw [Nat.zero_mul]; exact OInts.made _ _ _ _ (by unfold maxLen; omega)⟩ rfl (fun _ => rfl) ⟨rfl, trivial⟩ (fun w hw => hw) (fun j hj => ?_); obtain ⟨hj1, hj2⟩ := hj) | (refine c_loopV (ι := Nat × Value × SPiece) (fun i => (i.1 : Int) ≤ pw ∧ OInts 3 i.2.1 (mapTo φ pw (j.1 * pw.toNat + i.1)) i.2.2) (fun i => [(22, .int .i64 (i.1 : Int))]) (fun i => [[(_, srow [.int .i64 pw, .int .i64 ph, i.2.1] 49)], i.2.2, _]) (fun i => pw.toNat - i.1) (0, _, _) ⟨by dsimp only; omega, hj2⟩ rfl (fun _ => rfl) ⟨rfl, trivial⟩ (fun w hw => hw) (fun i hi => ?_); obtain ⟨hi1, hi2⟩ := hi) | refine c_seq ?_ | refine c_regionN rfl ?_ | refine c_ret ?_ | (refine kCond ?_; (first | refine c_cond_t rfl ?_ | refine c_cond_f rfl ?_ | ((first | refine c_cond_d rfl (fun h => ?_) (fun h => ?_) | refine c_cond_n rfl (fun h => ?_) (fun h => ?_)) <;> (try (first | contradiction | (exfalso; omega)))) | refine c_cond_nb rfl (fun h => ?_) (fun h => ?_) | refine c_cond rfl (fun h => ?_) (fun h => ?_))) | refine c_block ?_ | refine c_skip ?_ | refine c_exit ?_ | refine c_regionQN rfl rfl (by decide +kernel) ?_)) | apply s_stepQ | (refine kQG ?_; (first | refine s_gyesQ rfl rfl rfl ?_ | refine s_gnoQ rfl rfl rfl rfl rfl ?_ | ((first | refine s_splitQ_d rfl rfl (fun h => ?_) (fun h => ?_) | refine s_splitQ_n rfl rfl (fun h => ?_) (fun h => ?_)) <;> (try (first | contradiction | (exfalso; omega)))) | refine s_splitQ_nb rfl rfl (fun h => ?_) (fun h => ?_) | refine s_splitQ rfl rfl (fun h => ?_) (fun h => ?_))) | refine lQ_then ?_ | refine lQ_ends ?_ | (refine kE ?_; (first | refine e_then_r ?_ | refine e_block_r ?_ | refine e_then_n ?_ | refine e_then_x ?_ | refine e_block_n ?_ | refine e_block_x ?_ | refine e_block_y rfl ?_)) | refine l_ends ?_)
  · refine e_round (i.1 + 1, _, H') ⟨by dsimp only; omega, by dsimp only; rw [← mapTo_row (by omega) _ _ (by omega)]; exact hv'⟩ ⟨rfl, (by repeat' first | exact trivial | refine ⟨rfl, ?_⟩)⟩ (fun w hw => hw.sub (by repeat' first | exact List.nil_sublist _ | exact List.Sublist.slnil | refine List.Sublist.cons_cons _ ?_ | refine List.Sublist.cons _ ?_)) (by dsimp only; omega)
  · refine e_round (j.1 + 1, i.2.1, i.2.2) ⟨by dsimp only; omega, ?_⟩ ⟨rfl, (by repeat' first | exact trivial | refine ⟨rfl, ?_⟩)⟩ (fun w hw => hw) (by dsimp only; omega)
    dsimp only
    rw [Nat.succ_mul, show j.1 * pw.toNat + pw.toNat = j.1 * pw.toNat + i.1 by omega]
    exact hi2
  · have hj : j.1 * pw.toNat = (pw * ph).toNat := by
      have h1 : (j.1 : Int) = ph := by omega
      have h2 : ((j.1 * pw.toNat : Nat) : Int) = pw * ph := by push_cast; rw [h1, Int.toNat_of_nonneg (by omega), Int.mul_comm]
      omega
    rw [hj] at hj2
    refine s_leaveSF rfl rfl rfl fwA (fun w hw => ?_)
    exact ⟨_, _, rfl, ⟨_, rfl, hj2⟩, hw.toFresh (i := 1) rfl⟩
end Go.Proofs.YtpcammhmgleonaaGreat
namespace Go.Proofs.YtpcammhmgleonaaGreat
open Go Sx
attribute [local irreducible] Exit.then Exit.inBlock bodyPost
theorem c_channel (p k : Int) (w : World) (hk : 0 ≤ k ∧ k ≤ 3) : SYields Tryz.prog 83 #[.int .i64 p, .int .i64 k] (.int .i64 (chan p k)) w := by
  (first | apply SYields.mk | apply SYieldsF.mk | skip); refine s_enter Tryz.func83 rfl Tryz.ntmps83 rfl ?_
  repeat' (first | exact rfl | (apply kO; (first | exact ov_pure rfl | (apply kOBin; (first | exact aBin)) | (apply kOCall; (first | (apply kCallB; (first | exact aBlt | exact aLenR)))) | (apply kOLoad; (first | exact aLdF | exact aLdR)) | exact ov_fieldAddr rfl | (apply kOIdx; (first | exact aIdx)) | exact aRest | exact aNew | exact (ov_field1 (ft := 31) rfl rfl rfl rfl))) | (refine kN ?_; (first | (refine kStore ?_; (first | refine s_store1 _ rfl rfl gpA rfl (by rfl) ?_ | refine s_storeS _ rfl rfl gpA rfl rfl (by rfl) ?_ | refine s_storeS _ rfl rfl gpA rfl (ones_img oiA) (by rfl) ?_)) | refine s_boxS rfl rfl (fun b hb => ?_) | refine s_allocS rfl (fun b hb => ?_) | refine s_box1 rfl rfl rfl (fun b hb => ?_) | refine s_alloc1 rfl rfl (fun b hb => ?_) | refine s_buildSlice0 rfl (fun b hb => ?_) | refine s_buildSlice rfl rfl rfl rfl rfl (fun b hb => ?_) | apply s_step)) | (refine kG ?_; (first | refine s_gyes rfl rfl rfl ?_ | refine s_gno rfl rfl rfl rfl rfl ?_ | ((first | refine s_split_d rfl rfl (fun h => ?_) (fun h => ?_) | refine s_split_n rfl rfl (fun h => ?_) (fun h => ?_)) <;> (try (first | contradiction | (exfalso; omega)))) | refine s_split_nb rfl rfl (fun h => ?_) (fun h => ?_) | refine s_split rfl rfl (fun h => ?_) (fun h => ?_))) | refine l_then ?_ | (refine kC ?_; (first | refine c_seq ?_ | refine c_regionN rfl ?_ | refine c_ret ?_ | (refine kCond ?_; (first | refine c_cond_t rfl ?_ | refine c_cond_f rfl ?_ | ((first | refine c_cond_d rfl (fun h => ?_) (fun h => ?_) | refine c_cond_n rfl (fun h => ?_) (fun h => ?_)) <;> (try (first | contradiction | (exfalso; omega)))) | refine c_cond_nb rfl (fun h => ?_) (fun h => ?_) | refine c_cond rfl (fun h => ?_) (fun h => ?_))) | refine c_block ?_ | refine c_skip ?_ | refine c_exit ?_ | refine c_regionQN rfl rfl (by decide +kernel) ?_)) | apply s_stepQ | (refine kQG ?_; (first | refine s_gyesQ rfl rfl rfl ?_ | refine s_gnoQ rfl rfl rfl rfl rfl ?_ | ((first | refine s_splitQ_d rfl rfl (fun h => ?_) (fun h => ?_) | refine s_splitQ_n rfl rfl (fun h => ?_) (fun h => ?_)) <;> (try (first | contradiction | (exfalso; omega)))) | refine s_splitQ_nb rfl rfl (fun h => ?_) (fun h => ?_) | refine s_splitQ rfl rfl (fun h => ?_) (fun h => ?_))) | refine lQ_then ?_ | refine lQ_ends ?_ | (refine kE ?_; (first | refine e_then_r ?_ | refine e_block_r ?_ | refine e_then_n ?_ | refine e_then_x ?_ | refine e_block_n ?_ | refine e_block_x ?_ | refine e_block_y rfl ?_)) | refine l_ends ?_)
  all_goals refine s_leave1 rfl rfl (fun w hw => ⟨?_, hw.below⟩)
  all_goals rfl
theorem c_schannelOf (p k : Int) (w : World) : SYields Tryz.prog 96 #[.int .i64 p, .int .i64 k] (.int .i64 (channelOf p k)) w := by
  (first | apply SYields.mk | apply SYieldsF.mk | skip); refine s_enter Tryz.func96 rfl Tryz.ntmps96 rfl ?_
  repeat' (first | exact rfl | (apply kO; (first | exact ov_pure rfl | (apply kOBin; (first | exact aBin)) | (apply kOCall; (first | (apply kCallF; (first | exact (ov_call rfl (fun w hw => c_l04Pixel _ w)) | exact (ov_call rfl (fun w hw => c_l01In _ _ _ w)))) | (apply kCallB; (first | exact aBlt | exact aLenR)))) | (apply kOLoad; (first | exact aLdF | exact aLdR)) | exact ov_fieldAddr rfl | (apply kOIdx; (first | exact aIdx)) | exact aRest | exact aNew | exact (ov_field1 (ft := 31) rfl rfl rfl rfl))) | (refine kN ?_; (first | (refine kStore ?_; (first | refine s_store1 _ rfl rfl gpA rfl (by rfl) ?_ | refine s_storeS _ rfl rfl gpA rfl rfl (by rfl) ?_ | refine s_storeS _ rfl rfl gpA rfl (ones_img oiA) (by rfl) ?_)) | refine s_boxS rfl rfl (fun b hb => ?_) | refine s_allocS rfl (fun b hb => ?_) | refine s_box1 rfl rfl rfl (fun b hb => ?_) | refine s_alloc1 rfl rfl (fun b hb => ?_) | refine s_buildSlice0 rfl (fun b hb => ?_) | refine s_buildSlice rfl rfl rfl rfl rfl (fun b hb => ?_) | apply s_step)) | (refine kG ?_; (first | refine s_gyes rfl rfl rfl ?_ | refine s_gno rfl rfl rfl rfl rfl ?_ | ((first | refine s_split_d rfl rfl (fun h => ?_) (fun h => ?_) | refine s_split_n rfl rfl (fun h => ?_) (fun h => ?_)) <;> (try (first | contradiction | (exfalso; omega)))) | refine s_split_nb rfl rfl (fun h => ?_) (fun h => ?_) | refine s_split rfl rfl (fun h => ?_) (fun h => ?_))) | refine l_then ?_ | (refine kC ?_; (first | refine c_seq ?_ | refine c_regionN rfl ?_ | refine c_ret ?_ | (refine kCond ?_; (first | refine c_cond_t rfl ?_ | refine c_cond_f rfl ?_ | ((first | refine c_cond_d rfl (fun h => ?_) (fun h => ?_) | refine c_cond_n rfl (fun h => ?_) (fun h => ?_)) <;> (try (first | contradiction | (exfalso; omega)))) | refine c_cond_nb rfl (fun h => ?_) (fun h => ?_) | refine c_cond rfl (fun h => ?_) (fun h => ?_))) | refine c_block ?_ | refine c_skip ?_ | refine c_exit ?_ | refine c_regionQN rfl rfl (by decide +kernel) ?_)) | apply s_stepQ | (refine kQG ?_; (first | refine s_gyesQ rfl rfl rfl ?_ | refine s_gnoQ rfl rfl rfl rfl rfl ?_ | ((first | refine s_splitQ_d rfl rfl (fun h => ?_) (fun h => ?_) | refine s_splitQ_n rfl rfl (fun h => ?_) (fun h => ?_)) <;> (try (first | contradiction | (exfalso; omega)))) | refine s_splitQ_nb rfl rfl (fun h => ?_) (fun h => ?_) | refine s_splitQ rfl rfl (fun h => ?_) (fun h => ?_))) | refine lQ_then ?_ | refine lQ_ends ?_ | (refine kE ?_; (first | refine e_then_r ?_ | refine e_block_r ?_ | refine e_then_n ?_ | refine e_then_x ?_ | refine e_block_n ?_ | refine e_block_x ?_ | refine e_block_y rfl ?_)) | refine l_ends ?_)
  all_goals refine s_leave1 rfl rfl (fun w hw => ⟨?_, hw.below⟩)
  all_goals (refine ret_int ?_; unfold channelOf; first | (rw [if_neg (by omega)]; done) | (rw [if_pos (by omega)]; rfl))
theorem c_schannelIn (p k : Int) (w : World) (hp : 0 ≤ p ∧ p ≤ 4294967295) (hk : 0 ≤ k ∧ k ≤ 3) : SYields Tryz.prog 96 #[.int .i64 p, .int .i64 k] (.int .i64 (chan p k)) w := by
  have := c_schannelOf p k w
  unfold channelOf at this
  rwa [if_pos (by omega)] at this
end Go.Proofs.YtpcammhmgleonaaGreat
namespace Go.Proofs.YtpcammhmgleonaaGreat
open Go Sx
attribute [local irreducible] Exit.then Exit.inBlock bodyPost
theorem c_iimageOk (i : DImg) (d : Value) (w : World) (hd : RInts w d i.data) : SYields Tryz.prog 38 #[vImg i d] (.bool (decide i.ok)) w := by
  have hl := hd.len
  have hwh := fun (a : 1 ≤ i.W ∧ i.W ≤ 16) (c : 1 ≤ i.H ∧ i.H ≤ 16) => side_mul (w := i.W) (h := i.H) ⟨a.1, a.2, c.1, c.2⟩
  (first | apply SYields.mk | apply SYieldsF.mk | skip); refine s_enter Tryz.func38 rfl Tryz.ntmps38 rfl ?_
  repeat' (first | exact rfl | (apply kO; (first | exact ov_pure rfl | (apply kOBin; (first | exact aBin | exact (ov_mul rfl rfl (by have := hwh (by omega) (by omega); omega)))) | (apply kOCall; (first | (apply kCallF; (first | exact (ov_call rfl (fun w hw => c_isSide _ w)) | exact (ov_call rfl (fun w hw => c_isPixel _ w)))) | (apply kCallB; (first | exact aBlt | exact aLenR)))) | (apply kOLoad; (first | exact aLdF | exact aLdR)) | exact ov_fieldAddr rfl | (apply kOIdx; (first | exact aIdx)) | exact aRest | exact aNew | exact (ov_field1 (ft := 31) rfl rfl rfl rfl))) | (refine kN ?_; (first | (refine kStore ?_; (first | refine s_store1 _ rfl rfl gpA rfl (by rfl) ?_ | refine s_storeS _ rfl rfl gpA rfl rfl (by rfl) ?_ | refine s_storeS _ rfl rfl gpA rfl (ones_img oiA) (by rfl) ?_)) | refine s_boxS rfl rfl (fun b hb => ?_) | refine s_allocS rfl (fun b hb => ?_) | refine s_box1 rfl rfl rfl (fun b hb => ?_) | refine s_alloc1 rfl rfl (fun b hb => ?_) | refine s_buildSlice0 rfl (fun b hb => ?_) | refine s_buildSlice rfl rfl rfl rfl rfl (fun b hb => ?_) | apply s_step)) | (refine kG ?_; (first | refine s_gyes rfl rfl rfl ?_ | refine s_gno rfl rfl rfl rfl rfl ?_ | ((first | refine s_split_d rfl rfl (fun h => ?_) (fun h => ?_) | refine s_split_n rfl rfl (fun h => ?_) (fun h => ?_)) <;> (try (first | contradiction | (exfalso; omega)))) | refine s_split_nb rfl rfl (fun h => ?_) (fun h => ?_) | refine s_split rfl rfl (fun h => ?_) (fun h => ?_))) | refine l_then ?_ | (refine kC ?_; (first | (refine c_loopV (ι := Nat) (fun j => j ≤ i.data.length ∧ inTo 0 4294967295 i.data j) (fun j => [(29, .int .i64 (j : Int))]) (fun _ => [_]) (fun j => i.data.length - j) 0 ⟨by omega, inTo_zero _ _ _⟩ rfl (fun _ => rfl) ⟨rfl, trivial⟩ (fun w hw => hw) (fun j hj => ?_)) | refine c_seq ?_ | refine c_regionN rfl ?_ | refine c_ret ?_ | (refine kCond ?_; (first | refine c_cond_t rfl ?_ | refine c_cond_f rfl ?_ | ((first | refine c_cond_d rfl (fun h => ?_) (fun h => ?_) | refine c_cond_n rfl (fun h => ?_) (fun h => ?_)) <;> (try (first | contradiction | (exfalso; omega)))) | refine c_cond_nb rfl (fun h => ?_) (fun h => ?_) | refine c_cond rfl (fun h => ?_) (fun h => ?_))) | refine c_block ?_ | refine c_skip ?_ | refine c_exit ?_ | refine c_regionQN rfl rfl (by decide +kernel) ?_)) | apply s_stepQ | (refine kQG ?_; (first | refine s_gyesQ rfl rfl rfl ?_ | refine s_gnoQ rfl rfl rfl rfl rfl ?_ | ((first | refine s_splitQ_d rfl rfl (fun h => ?_) (fun h => ?_) | refine s_splitQ_n rfl rfl (fun h => ?_) (fun h => ?_)) <;> (try (first | contradiction | (exfalso; omega)))) | refine s_splitQ_nb rfl rfl (fun h => ?_) (fun h => ?_) | refine s_splitQ rfl rfl (fun h => ?_) (fun h => ?_))) | refine lQ_then ?_ | refine lQ_ends ?_ | (refine kE ?_; (first | refine e_then_r ?_ | refine e_block_r ?_ | refine e_then_n ?_ | refine e_then_x ?_ | refine e_block_n ?_ | refine e_block_x ?_ | refine e_block_y rfl ?_)) | refine l_ends ?_)
  all_goals try simp only [Int.toNat_natCast] at *
  all_goals try (exact e_round (j + 1) ⟨by omega, inTo_next hj.2 (by omega)⟩ ⟨rfl, (by repeat' first | exact trivial | refine ⟨rfl, ?_⟩)⟩ (fun w hw => hw) (by omega))
  all_goals refine s_leave1 rfl rfl (fun w hw => ⟨?_, hw.below⟩)
  all_goals first | exact ret_true ⟨by omega, by omega, by omega, fun q hq => hj.2 q (by omega)⟩ | (refine ret_false (fun hh => ?_); obtain ⟨h1, h2, h3, h4⟩ := hh; first | omega | (have := h4 j (by omega); omega))
theorem c_simageOk (i : DImg) (d : Value) (w : World) (hd : RInts w d i.data) : SYields Tryz.prog 97 #[vImg i d] (.bool (decide i.ok)) w := by
  have hl := hd.len
  have hwh := fun (a : 1 ≤ i.W ∧ i.W ≤ 16) (c : 1 ≤ i.H ∧ i.H ≤ 16) => side_mul (w := i.W) (h := i.H) ⟨a.1, a.2, c.1, c.2⟩
  (first | apply SYields.mk | apply SYieldsF.mk | skip); refine s_enter Tryz.func97 rfl Tryz.ntmps97 rfl ?_
  repeat' (first | exact rfl | (apply kO; (first | exact ov_pure rfl | (apply kOBin; (first | exact aBin | exact (ov_mul rfl rfl (by have := hwh (by omega) (by omega); omega)))) | (apply kOCall; (first | (apply kCallF; (first | exact (ov_call rfl (fun w hw => c_l01In _ _ _ w)) | exact (ov_call rfl (fun w hw => c_l04Pixel _ w)))) | (apply kCallB; (first | exact aBlt | exact aLenR)))) | (apply kOLoad; (first | exact aLdF | exact aLdR)) | exact ov_fieldAddr rfl | (apply kOIdx; (first | exact aIdx)) | exact aRest | exact aNew | exact (ov_field1 (ft := 31) rfl rfl rfl rfl))) | (refine kN ?_; (first | (refine kStore ?_; (first | refine s_store1 _ rfl rfl gpA rfl (by rfl) ?_ | refine s_storeS _ rfl rfl gpA rfl rfl (by rfl) ?_ | refine s_storeS _ rfl rfl gpA rfl (ones_img oiA) (by rfl) ?_)) | refine s_boxS rfl rfl (fun b hb => ?_) | refine s_allocS rfl (fun b hb => ?_) | refine s_box1 rfl rfl rfl (fun b hb => ?_) | refine s_alloc1 rfl rfl (fun b hb => ?_) | refine s_buildSlice0 rfl (fun b hb => ?_) | refine s_buildSlice rfl rfl rfl rfl rfl (fun b hb => ?_) | apply s_step)) | (refine kG ?_; (first | refine s_gyes rfl rfl rfl ?_ | refine s_gno rfl rfl rfl rfl rfl ?_ | ((first | refine s_split_d rfl rfl (fun h => ?_) (fun h => ?_) | refine s_split_n rfl rfl (fun h => ?_) (fun h => ?_)) <;> (try (first | contradiction | (exfalso; omega)))) | refine s_split_nb rfl rfl (fun h => ?_) (fun h => ?_) | refine s_split rfl rfl (fun h => ?_) (fun h => ?_))) | refine l_then ?_ | (refine kC ?_; (first | (refine c_loopV (ι := Nat) (fun j => j ≤ i.data.length ∧ inTo 0 4294967295 i.data j) (fun j => [(3, .int .i64 (j : Int))]) (fun _ => [_]) (fun j => i.data.length - j) 0 ⟨by omega, inTo_zero _ _ _⟩ rfl (fun _ => rfl) ⟨rfl, trivial⟩ (fun w hw => hw) (fun j hj => ?_)) | refine c_seq ?_ | refine c_regionN rfl ?_ | refine c_ret ?_ | (refine kCond ?_; (first | refine c_cond_t rfl ?_ | refine c_cond_f rfl ?_ | ((first | refine c_cond_d rfl (fun h => ?_) (fun h => ?_) | refine c_cond_n rfl (fun h => ?_) (fun h => ?_)) <;> (try (first | contradiction | (exfalso; omega)))) | refine c_cond_nb rfl (fun h => ?_) (fun h => ?_) | refine c_cond rfl (fun h => ?_) (fun h => ?_))) | refine c_block ?_ | refine c_skip ?_ | refine c_exit ?_ | refine c_regionQN rfl rfl (by decide +kernel) ?_)) | apply s_stepQ | (refine kQG ?_; (first | refine s_gyesQ rfl rfl rfl ?_ | refine s_gnoQ rfl rfl rfl rfl rfl ?_ | ((first | refine s_splitQ_d rfl rfl (fun h => ?_) (fun h => ?_) | refine s_splitQ_n rfl rfl (fun h => ?_) (fun h => ?_)) <;> (try (first | contradiction | (exfalso; omega)))) | refine s_splitQ_nb rfl rfl (fun h => ?_) (fun h => ?_) | refine s_splitQ rfl rfl (fun h => ?_) (fun h => ?_))) | refine lQ_then ?_ | refine lQ_ends ?_ | (refine kE ?_; (first | refine e_then_r ?_ | refine e_block_r ?_ | refine e_then_n ?_ | refine e_then_x ?_ | refine e_block_n ?_ | refine e_block_x ?_ | refine e_block_y rfl ?_)) | refine l_ends ?_)
  all_goals try simp only [Int.toNat_natCast] at *
  all_goals try (exact e_round (j + 1) ⟨by omega, inTo_next hj.2 (by omega)⟩ ⟨rfl, (by repeat' first | exact trivial | refine ⟨rfl, ?_⟩)⟩ (fun w hw => hw) (by omega))
  all_goals refine s_leave1 rfl rfl (fun w hw => ⟨?_, hw.below⟩)
  all_goals first | exact ret_true ⟨by omega, by omega, by omega, fun q hq => hj.2 q (by omega)⟩ | (refine ret_false (fun hh => ?_); obtain ⟨h1, h2, h3, h4⟩ := hh; first | omega | (have := h4 j (by omega); omega))
theorem c_isOrient (x : Int) (w : World) : SYields Tryz.prog 84 #[.int .i64 x] (.bool (decide (0 ≤ x ∧ x ≤ 7))) w := by
  (first | apply SYields.mk | apply SYieldsF.mk | skip); refine s_enter Tryz.func84 rfl Tryz.ntmps84 rfl ?_
  repeat' (first | exact rfl | (apply kO; (first | exact ov_pure rfl | (apply kOBin; (first | exact aBin)) | (apply kOCall; (first | (apply kCallF; (first | exact (ov_call rfl (fun w hw => c_within _ _ _ w)))) | (apply kCallB; (first | exact aBlt | exact aLenR)))) | (apply kOLoad; (first | exact aLdF | exact aLdR)) | exact ov_fieldAddr rfl | (apply kOIdx; (first | exact aIdx)) | exact aRest | exact aNew | exact (ov_field1 (ft := 31) rfl rfl rfl rfl))) | (refine kN ?_; (first | (refine kStore ?_; (first | refine s_store1 _ rfl rfl gpA rfl (by rfl) ?_ | refine s_storeS _ rfl rfl gpA rfl rfl (by rfl) ?_ | refine s_storeS _ rfl rfl gpA rfl (ones_img oiA) (by rfl) ?_)) | refine s_boxS rfl rfl (fun b hb => ?_) | refine s_allocS rfl (fun b hb => ?_) | refine s_box1 rfl rfl rfl (fun b hb => ?_) | refine s_alloc1 rfl rfl (fun b hb => ?_) | refine s_buildSlice0 rfl (fun b hb => ?_) | refine s_buildSlice rfl rfl rfl rfl rfl (fun b hb => ?_) | apply s_step)) | (refine kG ?_; (first | refine s_gyes rfl rfl rfl ?_ | refine s_gno rfl rfl rfl rfl rfl ?_ | ((first | refine s_split_d rfl rfl (fun h => ?_) (fun h => ?_) | refine s_split_n rfl rfl (fun h => ?_) (fun h => ?_)) <;> (try (first | contradiction | (exfalso; omega)))) | refine s_split_nb rfl rfl (fun h => ?_) (fun h => ?_) | refine s_split rfl rfl (fun h => ?_) (fun h => ?_))) | refine l_then ?_ | (refine kC ?_; (first | refine c_seq ?_ | refine c_regionN rfl ?_ | refine c_ret ?_ | (refine kCond ?_; (first | refine c_cond_t rfl ?_ | refine c_cond_f rfl ?_ | ((first | refine c_cond_d rfl (fun h => ?_) (fun h => ?_) | refine c_cond_n rfl (fun h => ?_) (fun h => ?_)) <;> (try (first | contradiction | (exfalso; omega)))) | refine c_cond_nb rfl (fun h => ?_) (fun h => ?_) | refine c_cond rfl (fun h => ?_) (fun h => ?_))) | refine c_block ?_ | refine c_skip ?_ | refine c_exit ?_ | refine c_regionQN rfl rfl (by decide +kernel) ?_)) | apply s_stepQ | (refine kQG ?_; (first | refine s_gyesQ rfl rfl rfl ?_ | refine s_gnoQ rfl rfl rfl rfl rfl ?_ | ((first | refine s_splitQ_d rfl rfl (fun h => ?_) (fun h => ?_) | refine s_splitQ_n rfl rfl (fun h => ?_) (fun h => ?_)) <;> (try (first | contradiction | (exfalso; omega)))) | refine s_splitQ_nb rfl rfl (fun h => ?_) (fun h => ?_) | refine s_splitQ rfl rfl (fun h => ?_) (fun h => ?_))) | refine lQ_then ?_ | refine lQ_ends ?_ | (refine kE ?_; (first | refine e_then_r ?_ | refine e_block_r ?_ | refine e_then_n ?_ | refine e_then_x ?_ | refine e_block_n ?_ | refine e_block_x ?_ | refine e_block_y rfl ?_)) | refine l_ends ?_)
  all_goals refine s_leave1 rfl rfl (fun w hw => ⟨?_, hw.below⟩)
  all_goals first | rfl | exact ret_true (by omega) | exact ret_false (by omega) | exact ret_dec (by omega)
theorem c_isurfaceOk (s : DSurf) (d : Value) (w : World) (hd : RInts w d s.buf.data) : SYields Tryz.prog 48 #[vSurf s d] (.bool (decide s.ok)) w := by
  (first | apply SYields.mk | apply SYieldsF.mk | skip); refine s_enter Tryz.func48 rfl Tryz.ntmps48 rfl ?_
  repeat' (first | exact rfl | (apply kO; (first | exact ov_pure rfl | (apply kOBin; (first | exact aBin)) | (apply kOCall; (first | (apply kCallF; (first | exact (ov_call rfl (fun w hw => c_within _ _ _ w)) | exact (ov_call rfl (fun w hw => c_isSide _ w)) | exact (ov_call rfl (fun w hw => c_isOrient _ w)) | exact (ov_call rfl (fun w hw => c_iimageOk s.buf _ w (riA hw))))) | (apply kCallB; (first | exact aBlt | exact aLenR)))) | (apply kOLoad; (first | exact aLdF | exact aLdR)) | exact ov_fieldAddr rfl | (apply kOIdx; (first | exact aIdx)) | exact aRest | exact aNew | exact (ov_field1 (ft := 31) rfl rfl rfl rfl))) | (refine kN ?_; (first | (refine kStore ?_; (first | refine s_store1 _ rfl rfl gpA rfl (by rfl) ?_ | refine s_storeS _ rfl rfl gpA rfl rfl (by rfl) ?_ | refine s_storeS _ rfl rfl gpA rfl (ones_img oiA) (by rfl) ?_)) | refine s_boxS rfl rfl (fun b hb => ?_) | refine s_allocS rfl (fun b hb => ?_) | refine s_box1 rfl rfl rfl (fun b hb => ?_) | refine s_alloc1 rfl rfl (fun b hb => ?_) | refine s_buildSlice0 rfl (fun b hb => ?_) | refine s_buildSlice rfl rfl rfl rfl rfl (fun b hb => ?_) | apply s_step)) | (refine kG ?_; (first | refine s_gyes rfl rfl rfl ?_ | refine s_gno rfl rfl rfl rfl rfl ?_ | ((first | refine s_split_d rfl rfl (fun h => ?_) (fun h => ?_) | refine s_split_n rfl rfl (fun h => ?_) (fun h => ?_)) <;> (try (first | contradiction | (exfalso; omega)))) | refine s_split_nb rfl rfl (fun h => ?_) (fun h => ?_) | refine s_split rfl rfl (fun h => ?_) (fun h => ?_))) | refine l_then ?_ | (refine kC ?_; (first | refine c_seq ?_ | refine c_regionN rfl ?_ | refine c_ret ?_ | (refine kCond ?_; (first | refine c_cond_t rfl ?_ | refine c_cond_f rfl ?_ | ((first | refine c_cond_d rfl (fun h => ?_) (fun h => ?_) | refine c_cond_n rfl (fun h => ?_) (fun h => ?_)) <;> (try (first | contradiction | (exfalso; omega)))) | refine c_cond_nb rfl (fun h => ?_) (fun h => ?_) | refine c_cond rfl (fun h => ?_) (fun h => ?_))) | refine c_block ?_ | refine c_skip ?_ | refine c_exit ?_ | refine c_regionQN rfl rfl (by decide +kernel) ?_)) | apply s_stepQ | (refine kQG ?_; (first | refine s_gyesQ rfl rfl rfl ?_ | refine s_gnoQ rfl rfl rfl rfl rfl ?_ | ((first | refine s_splitQ_d rfl rfl (fun h => ?_) (fun h => ?_) | refine s_splitQ_n rfl rfl (fun h => ?_) (fun h => ?_)) <;> (try (first | contradiction | (exfalso; omega)))) | refine s_splitQ_nb rfl rfl (fun h => ?_) (fun h => ?_) | refine s_splitQ rfl rfl (fun h => ?_) (fun h => ?_))) | refine lQ_then ?_ | refine lQ_ends ?_ | (refine kE ?_; (first | refine e_then_r ?_ | refine e_block_r ?_ | refine e_then_n ?_ | refine e_then_x ?_ | refine e_block_n ?_ | refine e_block_x ?_ | refine e_block_y rfl ?_)) | refine l_ends ?_)
  all_goals refine s_leave1 rfl rfl (fun w hw => ⟨?_, hw.below⟩)
  all_goals first | (refine ret_false (fun hh => ?_); obtain ⟨h1, h2, h3, h4, h5, h6, h7⟩ := hh; simp only [DSurf.sized, byteP] at h4 h5; omega) | exact ret_dec ⟨fun hd => ⟨by omega, by omega, by omega, by simp only [DSurf.sized]; omega, by simp only [byteP]; omega, by omega, hd⟩, fun hh => hh.2.2.2.2.2.2⟩
theorem c_ssurfaceOk (s : DSurf) (d : Value) (w : World) (hd : RInts w d s.buf.data) : SYields Tryz.prog 69 #[vSurf s d] (.bool (decide s.ok)) w := by
  (first | apply SYields.mk | apply SYieldsF.mk | skip); refine s_enter Tryz.func69 rfl Tryz.ntmps69 rfl ?_
  repeat' (first | exact rfl | (apply kO; (first | exact ov_pure rfl | (apply kOBin; (first | exact aBin)) | (apply kOCall; (first | (apply kCallF; (first | exact (ov_call rfl (fun w hw => c_l01In _ _ _ w)) | exact (ov_call rfl (fun w hw => c_simageOk s.buf _ w (riA hw))))) | (apply kCallB; (first | exact aBlt | exact aLenR)))) | (apply kOLoad; (first | exact aLdF | exact aLdR)) | exact ov_fieldAddr rfl | (apply kOIdx; (first | exact aIdx)) | exact aRest | exact aNew | exact (ov_field1 (ft := 31) rfl rfl rfl rfl))) | (refine kN ?_; (first | (refine kStore ?_; (first | refine s_store1 _ rfl rfl gpA rfl (by rfl) ?_ | refine s_storeS _ rfl rfl gpA rfl rfl (by rfl) ?_ | refine s_storeS _ rfl rfl gpA rfl (ones_img oiA) (by rfl) ?_)) | refine s_boxS rfl rfl (fun b hb => ?_) | refine s_allocS rfl (fun b hb => ?_) | refine s_box1 rfl rfl rfl (fun b hb => ?_) | refine s_alloc1 rfl rfl (fun b hb => ?_) | refine s_buildSlice0 rfl (fun b hb => ?_) | refine s_buildSlice rfl rfl rfl rfl rfl (fun b hb => ?_) | apply s_step)) | (refine kG ?_; (first | refine s_gyes rfl rfl rfl ?_ | refine s_gno rfl rfl rfl rfl rfl ?_ | ((first | refine s_split_d rfl rfl (fun h => ?_) (fun h => ?_) | refine s_split_n rfl rfl (fun h => ?_) (fun h => ?_)) <;> (try (first | contradiction | (exfalso; omega)))) | refine s_split_nb rfl rfl (fun h => ?_) (fun h => ?_) | refine s_split rfl rfl (fun h => ?_) (fun h => ?_))) | refine l_then ?_ | (refine kC ?_; (first | refine c_seq ?_ | refine c_regionN rfl ?_ | refine c_ret ?_ | (refine kCond ?_; (first | refine c_cond_t rfl ?_ | refine c_cond_f rfl ?_ | ((first | refine c_cond_d rfl (fun h => ?_) (fun h => ?_) | refine c_cond_n rfl (fun h => ?_) (fun h => ?_)) <;> (try (first | contradiction | (exfalso; omega)))) | refine c_cond_nb rfl (fun h => ?_) (fun h => ?_) | refine c_cond rfl (fun h => ?_) (fun h => ?_))) | refine c_block ?_ | refine c_skip ?_ | refine c_exit ?_ | refine c_regionQN rfl rfl (by decide +kernel) ?_)) | apply s_stepQ | (refine kQG ?_; (first | refine s_gyesQ rfl rfl rfl ?_ | refine s_gnoQ rfl rfl rfl rfl rfl ?_ | ((first | refine s_splitQ_d rfl rfl (fun h => ?_) (fun h => ?_) | refine s_splitQ_n rfl rfl (fun h => ?_) (fun h => ?_)) <;> (try (first | contradiction | (exfalso; omega)))) | refine s_splitQ_nb rfl rfl (fun h => ?_) (fun h => ?_) | refine s_splitQ rfl rfl (fun h => ?_) (fun h => ?_))) | refine lQ_then ?_ | refine lQ_ends ?_ | (refine kE ?_; (first | refine e_then_r ?_ | refine e_block_r ?_ | refine e_then_n ?_ | refine e_then_x ?_ | refine e_block_n ?_ | refine e_block_x ?_ | refine e_block_y rfl ?_)) | refine l_ends ?_)
  all_goals refine s_leave1 rfl rfl (fun w hw => ⟨?_, hw.below⟩)
  all_goals first | (refine ret_false (fun hh => ?_); obtain ⟨h1, h2, h3, h4, h5, h6, h7⟩ := hh; simp only [DSurf.sized, byteP] at h4 h5; first | omega | contradiction) | (refine ret_true ⟨by omega, by omega, by omega, by simp only [DSurf.sized]; omega, by simp only [byteP]; omega, by omega, by assumption⟩) | exact ret_dec ⟨fun hd => ⟨by omega, by omega, by omega, by simp only [DSurf.sized]; omega, by simp only [byteP]; omega, by omega, by assumption⟩, fun hh => by obtain ⟨h1, h2, h3, h4, h5, h6, h7⟩ := hh; simp only [DSurf.sized, byteP] at h4 h5; omega⟩
end Go.Proofs.YtpcammhmgleonaaGreat
namespace Go.Proofs.YtpcammhmgleonaaGreat
open Go Sx
attribute [local irreducible] Exit.then Exit.inBlock bodyPost
theorem c_idClosure (s : DSurf) (d : Value) (id : Int) (q : Addr) (w : World) (hq : w.cell? q = some (.int .i64 id)) : SYields Tryz.prog 87 #[vSurf s d, .pointer (some q)] (.bool (decide (s.Id = id))) w := by
  (first | apply SYields.mk | apply SYieldsF.mk | skip); refine s_enter Tryz.func87 rfl Tryz.ntmps87 rfl ?_
  repeat' (first | exact rfl | (apply kO; (first | exact ov_pure rfl | (apply kOBin; (first | exact aBin)) | (apply kOCall; (first | (apply kCallB; (first | exact aBlt | exact aLenR)))) | (apply kOLoad; (first | exact (ov_load_at rfl rfl (fun w hw => hw.cells rfl _ _ hq)) | exact aLdF | exact aLdR)) | exact ov_fieldAddr rfl | (apply kOIdx; (first | exact aIdx)) | exact aRest | exact aNew | exact (ov_field1 (ft := 31) rfl rfl rfl rfl))) | (refine kN ?_; (first | (refine kStore ?_; (first | refine s_store1 _ rfl rfl gpA rfl (by rfl) ?_ | refine s_storeS _ rfl rfl gpA rfl rfl (by rfl) ?_ | refine s_storeS _ rfl rfl gpA rfl (ones_img oiA) (by rfl) ?_)) | refine s_boxS rfl rfl (fun b hb => ?_) | refine s_allocS rfl (fun b hb => ?_) | refine s_box1 rfl rfl rfl (fun b hb => ?_) | refine s_alloc1 rfl rfl (fun b hb => ?_) | refine s_buildSlice0 rfl (fun b hb => ?_) | refine s_buildSlice rfl rfl rfl rfl rfl (fun b hb => ?_) | apply s_step)) | (refine kG ?_; (first | refine s_gyes rfl rfl rfl ?_ | refine s_gno rfl rfl rfl rfl rfl ?_ | ((first | refine s_split_d rfl rfl (fun h => ?_) (fun h => ?_) | refine s_split_n rfl rfl (fun h => ?_) (fun h => ?_)) <;> (try (first | contradiction | (exfalso; omega)))) | refine s_split_nb rfl rfl (fun h => ?_) (fun h => ?_) | refine s_split rfl rfl (fun h => ?_) (fun h => ?_))) | refine l_then ?_ | (refine kC ?_; (first | refine c_seq ?_ | refine c_regionN rfl ?_ | refine c_ret ?_ | (refine kCond ?_; (first | refine c_cond_t rfl ?_ | refine c_cond_f rfl ?_ | ((first | refine c_cond_d rfl (fun h => ?_) (fun h => ?_) | refine c_cond_n rfl (fun h => ?_) (fun h => ?_)) <;> (try (first | contradiction | (exfalso; omega)))) | refine c_cond_nb rfl (fun h => ?_) (fun h => ?_) | refine c_cond rfl (fun h => ?_) (fun h => ?_))) | refine c_block ?_ | refine c_skip ?_ | refine c_exit ?_ | refine c_regionQN rfl rfl (by decide +kernel) ?_)) | apply s_stepQ | (refine kQG ?_; (first | refine s_gyesQ rfl rfl rfl ?_ | refine s_gnoQ rfl rfl rfl rfl rfl ?_ | ((first | refine s_splitQ_d rfl rfl (fun h => ?_) (fun h => ?_) | refine s_splitQ_n rfl rfl (fun h => ?_) (fun h => ?_)) <;> (try (first | contradiction | (exfalso; omega)))) | refine s_splitQ_nb rfl rfl (fun h => ?_) (fun h => ?_) | refine s_splitQ rfl rfl (fun h => ?_) (fun h => ?_))) | refine lQ_then ?_ | refine lQ_ends ?_ | (refine kE ?_; (first | refine e_then_r ?_ | refine e_block_r ?_ | refine e_then_n ?_ | refine e_then_x ?_ | refine e_block_n ?_ | refine e_block_x ?_ | refine e_block_y rfl ?_)) | refine l_ends ?_)
  all_goals refine s_leave1 rfl rfl (fun w hw => ⟨?_, hw.below⟩)
  all_goals rfl
set_option maxRecDepth 10000 in
theorem c_indexFunc (v : Value) (l : List DSurf) (id : Int) (q : Addr) (w : World) (hv : RS eSurf w v l) (hq : w.cell? q = some (.int .i64 id)) :
    SYields Tryz.prog 86 #[v, .func (.func 87) #[] #[.pointer (some q)]] (.int .i64 (surfaceIndex l id)) w := by
  obtain ⟨ds, hv⟩ := hv
  have hl := hv.row.len
  (first | apply SYields.mk | apply SYieldsF.mk | skip); refine s_enter Tryz.func86 rfl Tryz.ntmps86 rfl ?_
  repeat' (first | exact rfl | (apply kO; (first | exact ov_pure rfl | (apply kOBin; (first | exact aBin)) | (apply kOCall; (first | (apply kCallV; exact (ov_callV rfl rfl (fun w hw => c_idClosure _ _ _ _ w (hw.cells rfl _ _ hq)))) | (apply kCallB; (first | exact aBlt | exact aLenR)))) | (apply kOLoad; (first | exact aLdF | exact aLdR)) | exact ov_fieldAddr rfl | (apply kOIdx; (first | exact aIdx)) | exact aRest | exact aNew | exact (ov_field1 (ft := 31) rfl rfl rfl rfl))) | (refine kN ?_; (first | (refine kStore ?_; (first | refine s_store1 _ rfl rfl gpA rfl (by rfl) ?_ | refine s_storeS _ rfl rfl gpA rfl rfl (by rfl) ?_ | refine s_storeS _ rfl rfl gpA rfl (ones_img oiA) (by rfl) ?_)) | refine s_boxS rfl rfl (fun b hb => ?_) | refine s_allocS rfl (fun b hb => ?_) | refine s_box1 rfl rfl rfl (fun b hb => ?_) | refine s_alloc1 rfl rfl (fun b hb => ?_) | refine s_buildSlice0 rfl (fun b hb => ?_) | refine s_buildSlice rfl rfl rfl rfl rfl (fun b hb => ?_) | apply s_step)) | (refine kG ?_; (first | refine s_gyes rfl rfl rfl ?_ | refine s_gno rfl rfl rfl rfl rfl ?_ | ((first | refine s_split_d rfl rfl (fun h => ?_) (fun h => ?_) | refine s_split_n rfl rfl (fun h => ?_) (fun h => ?_)) <;> (try (first | contradiction | (exfalso; omega)))) | refine s_split_nb rfl rfl (fun h => ?_) (fun h => ?_) | refine s_split rfl rfl (fun h => ?_) (fun h => ?_))) | refine l_then ?_ | (refine kC ?_; (first | (refine c_loopV (ι := Nat) (fun j => j ≤ l.length ∧ ∀ i, i < j → (l.getD i default).Id ≠ id) (fun j => [(8, .int .i64 (j : Int))]) (fun _ => []) (fun j => l.length - j) 0 ⟨by omega, fun i hi => by omega⟩ rfl (fun _ => rfl) ⟨rfl, trivial⟩ (fun w hw => hw) (fun j hj => ?_)) | refine c_seq ?_ | refine c_regionN rfl ?_ | refine c_ret ?_ | (refine kCond ?_; (first | refine c_cond_t rfl ?_ | refine c_cond_f rfl ?_ | ((first | refine c_cond_d rfl (fun h => ?_) (fun h => ?_) | refine c_cond_n rfl (fun h => ?_) (fun h => ?_)) <;> (try (first | contradiction | (exfalso; omega)))) | refine c_cond_nb rfl (fun h => ?_) (fun h => ?_) | refine c_cond rfl (fun h => ?_) (fun h => ?_))) | refine c_block ?_ | refine c_skip ?_ | refine c_exit ?_ | refine c_regionQN rfl rfl (by decide +kernel) ?_)) | apply s_stepQ | (refine kQG ?_; (first | refine s_gyesQ rfl rfl rfl ?_ | refine s_gnoQ rfl rfl rfl rfl rfl ?_ | ((first | refine s_splitQ_d rfl rfl (fun h => ?_) (fun h => ?_) | refine s_splitQ_n rfl rfl (fun h => ?_) (fun h => ?_)) <;> (try (first | contradiction | (exfalso; omega)))) | refine s_splitQ_nb rfl rfl (fun h => ?_) (fun h => ?_) | refine s_splitQ rfl rfl (fun h => ?_) (fun h => ?_))) | refine lQ_then ?_ | refine lQ_ends ?_ | (refine kE ?_; (first | refine e_then_r ?_ | refine e_block_r ?_ | refine e_then_n ?_ | refine e_then_x ?_ | refine e_block_n ?_ | refine e_block_x ?_ | refine e_block_y rfl ?_)) | refine l_ends ?_)
  all_goals try simp only [Int.toNat_natCast, eSurf_dflt] at *
  · exact s_leave1 rfl rfl (fun w hw => ⟨ret_int (surfaceIndex_found (by omega) hj.2 (by assumption)).symm, hw.below⟩)
  · exact e_round (j + 1) ⟨by omega, fun i hi => by
      by_cases e : i = j
      · subst e; assumption
      · exact hj.2 i (by omega)⟩ ⟨rfl, (by repeat' first | exact trivial | refine ⟨rfl, ?_⟩)⟩ (fun w hw => hw) (by omega)
  · exact s_leave1 rfl rfl (fun w hw => ⟨ret_int (surfaceIndex_none (fun i hi => hj.2 i (by omega))).symm, hw.below⟩)
theorem c_isurfaceIndex (s : DScene) (v : Value) (id : Int) (w : World) (hv : RS eSurf w v s.ss) : SYields Tryz.prog 56 #[vScene s v, .int .i64 id] (.int .i64 (surfaceIndex s.ss id)) w := by
  (first | apply SYields.mk | apply SYieldsF.mk | skip); refine s_enter Tryz.func56 rfl Tryz.ntmps56 rfl ?_
  repeat' (first | exact rfl | (apply kO; (first | exact ov_pure rfl | (apply kOBin; (first | exact aBin)) | (apply kOCall; (first | (apply kCallF; (first | exact (ov_call rfl (fun w hw => c_indexFunc _ _ _ _ w (reA hw) (hw.cell (getL_flat (i := 0) rfl (List.mem_singleton.2 rfl)) rfl))))) | (apply kCallB; (first | exact aBlt | exact aLenR)))) | (apply kOLoad; (first | exact aLdF | exact aLdR)) | exact ov_fieldAddr rfl | (apply kOIdx; (first | exact aIdx)) | exact aRest | exact aNew | exact (ov_field1 (ft := 31) rfl rfl rfl rfl))) | (refine kN ?_; (first | (refine kStore ?_; (first | refine s_store1 _ rfl rfl gpA rfl (by rfl) ?_ | refine s_storeS _ rfl rfl gpA rfl rfl (by rfl) ?_ | refine s_storeS _ rfl rfl gpA rfl (ones_img oiA) (by rfl) ?_)) | refine s_boxS rfl rfl (fun b hb => ?_) | refine s_allocS rfl (fun b hb => ?_) | refine s_box1 rfl rfl rfl (fun b hb => ?_) | refine s_alloc1 rfl rfl (fun b hb => ?_) | refine s_buildSlice0 rfl (fun b hb => ?_) | refine s_buildSlice rfl rfl rfl rfl rfl (fun b hb => ?_) | apply s_step)) | (refine kG ?_; (first | refine s_gyes rfl rfl rfl ?_ | refine s_gno rfl rfl rfl rfl rfl ?_ | ((first | refine s_split_d rfl rfl (fun h => ?_) (fun h => ?_) | refine s_split_n rfl rfl (fun h => ?_) (fun h => ?_)) <;> (try (first | contradiction | (exfalso; omega)))) | refine s_split_nb rfl rfl (fun h => ?_) (fun h => ?_) | refine s_split rfl rfl (fun h => ?_) (fun h => ?_))) | refine l_then ?_ | (refine kC ?_; (first | refine c_seq ?_ | refine c_regionN rfl ?_ | refine c_ret ?_ | (refine kCond ?_; (first | refine c_cond_t rfl ?_ | refine c_cond_f rfl ?_ | ((first | refine c_cond_d rfl (fun h => ?_) (fun h => ?_) | refine c_cond_n rfl (fun h => ?_) (fun h => ?_)) <;> (try (first | contradiction | (exfalso; omega)))) | refine c_cond_nb rfl (fun h => ?_) (fun h => ?_) | refine c_cond rfl (fun h => ?_) (fun h => ?_))) | refine c_block ?_ | refine c_skip ?_ | refine c_exit ?_ | refine c_regionQN rfl rfl (by decide +kernel) ?_)) | apply s_stepQ | (refine kQG ?_; (first | refine s_gyesQ rfl rfl rfl ?_ | refine s_gnoQ rfl rfl rfl rfl rfl ?_ | ((first | refine s_splitQ_d rfl rfl (fun h => ?_) (fun h => ?_) | refine s_splitQ_n rfl rfl (fun h => ?_) (fun h => ?_)) <;> (try (first | contradiction | (exfalso; omega)))) | refine s_splitQ_nb rfl rfl (fun h => ?_) (fun h => ?_) | refine s_splitQ rfl rfl (fun h => ?_) (fun h => ?_))) | refine lQ_then ?_ | refine lQ_ends ?_ | (refine kE ?_; (first | refine e_then_r ?_ | refine e_block_r ?_ | refine e_then_n ?_ | refine e_then_x ?_ | refine e_block_n ?_ | refine e_block_x ?_ | refine e_block_y rfl ?_)) | refine l_ends ?_)
  all_goals refine s_leave1 rfl rfl (fun w hw => ⟨?_, hw.below⟩)
  all_goals rfl
theorem c_ssurfaceIndex (s : DScene) (v : Value) (id : Int) (w : World) (hv : RS eSurf w v s.ss) : SYields Tryz.prog 52 #[vScene s v, .int .i64 id] (.int .i64 (surfaceIndex s.ss id)) w := by
  obtain ⟨ds, hv⟩ := hv
  have hl := hv.row.len
  (first | apply SYields.mk | apply SYieldsF.mk | skip); refine s_enter Tryz.func52 rfl Tryz.ntmps52 rfl ?_
  repeat' (first | exact rfl | (apply kO; (first | exact ov_pure rfl | (apply kOBin; (first | exact aBin)) | (apply kOCall; (first | (apply kCallB; (first | exact aBlt | exact aLenR)))) | (apply kOLoad; (first | exact aLdF | exact aLdR)) | exact ov_fieldAddr rfl | (apply kOIdx; (first | exact aIdx)) | exact aRest | exact aNew | exact (ov_field1 (ft := 31) rfl rfl rfl rfl))) | (refine kN ?_; (first | (refine kStore ?_; (first | refine s_store1 _ rfl rfl gpA rfl (by rfl) ?_ | refine s_storeS _ rfl rfl gpA rfl rfl (by rfl) ?_ | refine s_storeS _ rfl rfl gpA rfl (ones_img oiA) (by rfl) ?_)) | refine s_boxS rfl rfl (fun b hb => ?_) | refine s_allocS rfl (fun b hb => ?_) | refine s_box1 rfl rfl rfl (fun b hb => ?_) | refine s_alloc1 rfl rfl (fun b hb => ?_) | refine s_buildSlice0 rfl (fun b hb => ?_) | refine s_buildSlice rfl rfl rfl rfl rfl (fun b hb => ?_) | apply s_step)) | (refine kG ?_; (first | refine s_gyes rfl rfl rfl ?_ | refine s_gno rfl rfl rfl rfl rfl ?_ | ((first | refine s_split_d rfl rfl (fun h => ?_) (fun h => ?_) | refine s_split_n rfl rfl (fun h => ?_) (fun h => ?_)) <;> (try (first | contradiction | (exfalso; omega)))) | refine s_split_nb rfl rfl (fun h => ?_) (fun h => ?_) | refine s_split rfl rfl (fun h => ?_) (fun h => ?_))) | refine l_then ?_ | (refine kC ?_; (first | (refine c_loopV (ι := Nat) (fun j => j ≤ s.ss.length ∧ ∀ i, i < j → (s.ss.getD i default).Id ≠ id) (fun j => [(5, .int .i64 (j : Int))]) (fun _ => [_]) (fun j => s.ss.length - j) 0 ⟨by omega, fun i hi => by omega⟩ rfl (fun _ => rfl) ⟨rfl, trivial⟩ (fun w hw => hw) (fun j hj => ?_)) | refine c_seq ?_ | refine c_regionN rfl ?_ | refine c_ret ?_ | (refine kCond ?_; (first | refine c_cond_t rfl ?_ | refine c_cond_f rfl ?_ | ((first | refine c_cond_d rfl (fun h => ?_) (fun h => ?_) | refine c_cond_n rfl (fun h => ?_) (fun h => ?_)) <;> (try (first | contradiction | (exfalso; omega)))) | refine c_cond_nb rfl (fun h => ?_) (fun h => ?_) | refine c_cond rfl (fun h => ?_) (fun h => ?_))) | refine c_block ?_ | refine c_skip ?_ | refine c_exit ?_ | refine c_regionQN rfl rfl (by decide +kernel) ?_)) | apply s_stepQ | (refine kQG ?_; (first | refine s_gyesQ rfl rfl rfl ?_ | refine s_gnoQ rfl rfl rfl rfl rfl ?_ | ((first | refine s_splitQ_d rfl rfl (fun h => ?_) (fun h => ?_) | refine s_splitQ_n rfl rfl (fun h => ?_) (fun h => ?_)) <;> (try (first | contradiction | (exfalso; omega)))) | refine s_splitQ_nb rfl rfl (fun h => ?_) (fun h => ?_) | refine s_splitQ rfl rfl (fun h => ?_) (fun h => ?_))) | refine lQ_then ?_ | refine lQ_ends ?_ | (refine kE ?_; (first | refine e_then_r ?_ | refine e_block_r ?_ | refine e_then_n ?_ | refine e_then_x ?_ | refine e_block_n ?_ | refine e_block_x ?_ | refine e_block_y rfl ?_)) | refine l_ends ?_)
  all_goals try simp only [Int.toNat_natCast, eSurf_dflt] at *
  · exact s_leave1 rfl rfl (fun w hw => ⟨ret_int (surfaceIndex_found (by omega) hj.2 (by assumption)).symm, hw.below⟩)
  · exact e_round (j + 1) ⟨by omega, fun i hi => by
      by_cases e : i = j
      · subst e; assumption
      · exact hj.2 i (by omega)⟩ ⟨rfl, (by repeat' first | exact trivial | refine ⟨rfl, ?_⟩)⟩ (fun w hw => hw) (by omega)
  · exact s_leave1 rfl rfl (fun w hw => ⟨ret_int (surfaceIndex_none (fun i hi => hj.2 i (by omega))).symm, hw.below⟩)
theorem c_isOpaquePixel (p : Int) (w : World) : SYields Tryz.prog 47 #[.int .i64 p] (.bool (decide (opaqueP p))) w := by
  (first | apply SYields.mk | apply SYieldsF.mk | skip); refine s_enter Tryz.func47 rfl Tryz.ntmps47 rfl ?_
  repeat' (first | exact rfl | (apply kO; (first | exact ov_pure rfl | (apply kOBin; (first | exact aBin)) | (apply kOCall; (first | (apply kCallF; (first | exact (ov_call rfl (fun w hw => c_isPixel _ w)) | exact (ov_call rfl (fun w hw => c_channel _ _ w (by omega))))) | (apply kCallB; (first | exact aBlt | exact aLenR)))) | (apply kOLoad; (first | exact aLdF | exact aLdR)) | exact ov_fieldAddr rfl | (apply kOIdx; (first | exact aIdx)) | exact aRest | exact aNew | exact (ov_field1 (ft := 31) rfl rfl rfl rfl))) | (refine kN ?_; (first | (refine kStore ?_; (first | refine s_store1 _ rfl rfl gpA rfl (by rfl) ?_ | refine s_storeS _ rfl rfl gpA rfl rfl (by rfl) ?_ | refine s_storeS _ rfl rfl gpA rfl (ones_img oiA) (by rfl) ?_)) | refine s_boxS rfl rfl (fun b hb => ?_) | refine s_allocS rfl (fun b hb => ?_) | refine s_box1 rfl rfl rfl (fun b hb => ?_) | refine s_alloc1 rfl rfl (fun b hb => ?_) | refine s_buildSlice0 rfl (fun b hb => ?_) | refine s_buildSlice rfl rfl rfl rfl rfl (fun b hb => ?_) | apply s_step)) | (refine kG ?_; (first | refine s_gyes rfl rfl rfl ?_ | refine s_gno rfl rfl rfl rfl rfl ?_ | ((first | refine s_split_d rfl rfl (fun h => ?_) (fun h => ?_) | refine s_split_n rfl rfl (fun h => ?_) (fun h => ?_)) <;> (try (first | contradiction | (exfalso; omega)))) | refine s_split_nb rfl rfl (fun h => ?_) (fun h => ?_) | refine s_split rfl rfl (fun h => ?_) (fun h => ?_))) | refine l_then ?_ | (refine kC ?_; (first | refine c_seq ?_ | refine c_regionN rfl ?_ | refine c_ret ?_ | (refine kCond ?_; (first | refine c_cond_t rfl ?_ | refine c_cond_f rfl ?_ | ((first | refine c_cond_d rfl (fun h => ?_) (fun h => ?_) | refine c_cond_n rfl (fun h => ?_) (fun h => ?_)) <;> (try (first | contradiction | (exfalso; omega)))) | refine c_cond_nb rfl (fun h => ?_) (fun h => ?_) | refine c_cond rfl (fun h => ?_) (fun h => ?_))) | refine c_block ?_ | refine c_skip ?_ | refine c_exit ?_ | refine c_regionQN rfl rfl (by decide +kernel) ?_)) | apply s_stepQ | (refine kQG ?_; (first | refine s_gyesQ rfl rfl rfl ?_ | refine s_gnoQ rfl rfl rfl rfl rfl ?_ | ((first | refine s_splitQ_d rfl rfl (fun h => ?_) (fun h => ?_) | refine s_splitQ_n rfl rfl (fun h => ?_) (fun h => ?_)) <;> (try (first | contradiction | (exfalso; omega)))) | refine s_splitQ_nb rfl rfl (fun h => ?_) (fun h => ?_) | refine s_splitQ rfl rfl (fun h => ?_) (fun h => ?_))) | refine lQ_then ?_ | refine lQ_ends ?_ | (refine kE ?_; (first | refine e_then_r ?_ | refine e_block_r ?_ | refine e_then_n ?_ | refine e_then_x ?_ | refine e_block_n ?_ | refine e_block_x ?_ | refine e_block_y rfl ?_)) | refine l_ends ?_)
  all_goals refine s_leave1 rfl rfl (fun w hw => ⟨?_, hw.below⟩)
  all_goals first | (refine ret_false (fun hh => ?_); unfold opaqueP pixP at hh; omega) | exact ret_dec ⟨fun hh => ⟨by unfold pixP; omega, hh⟩, fun hh => hh.2⟩
theorem c_l10Opaque (p : Int) (w : World) : SYields Tryz.prog 68 #[.int .i64 p] (.bool (decide (opaqueP p))) w := by
  (first | apply SYields.mk | apply SYieldsF.mk | skip); refine s_enter Tryz.func68 rfl Tryz.ntmps68 rfl ?_
  repeat' (first | exact rfl | (apply kO; (first | exact ov_pure rfl | (apply kOBin; (first | exact aBin)) | (apply kOCall; (first | (apply kCallF; (first | exact (ov_call rfl (fun w hw => c_l04Pixel _ w)) | exact (ov_call rfl (fun w hw => c_schannelIn _ _ w (by omega) (by omega))))) | (apply kCallB; (first | exact aBlt | exact aLenR)))) | (apply kOLoad; (first | exact aLdF | exact aLdR)) | exact ov_fieldAddr rfl | (apply kOIdx; (first | exact aIdx)) | exact aRest | exact aNew | exact (ov_field1 (ft := 31) rfl rfl rfl rfl))) | (refine kN ?_; (first | (refine kStore ?_; (first | refine s_store1 _ rfl rfl gpA rfl (by rfl) ?_ | refine s_storeS _ rfl rfl gpA rfl rfl (by rfl) ?_ | refine s_storeS _ rfl rfl gpA rfl (ones_img oiA) (by rfl) ?_)) | refine s_boxS rfl rfl (fun b hb => ?_) | refine s_allocS rfl (fun b hb => ?_) | refine s_box1 rfl rfl rfl (fun b hb => ?_) | refine s_alloc1 rfl rfl (fun b hb => ?_) | refine s_buildSlice0 rfl (fun b hb => ?_) | refine s_buildSlice rfl rfl rfl rfl rfl (fun b hb => ?_) | apply s_step)) | (refine kG ?_; (first | refine s_gyes rfl rfl rfl ?_ | refine s_gno rfl rfl rfl rfl rfl ?_ | ((first | refine s_split_d rfl rfl (fun h => ?_) (fun h => ?_) | refine s_split_n rfl rfl (fun h => ?_) (fun h => ?_)) <;> (try (first | contradiction | (exfalso; omega)))) | refine s_split_nb rfl rfl (fun h => ?_) (fun h => ?_) | refine s_split rfl rfl (fun h => ?_) (fun h => ?_))) | refine l_then ?_ | (refine kC ?_; (first | refine c_seq ?_ | refine c_regionN rfl ?_ | refine c_ret ?_ | (refine kCond ?_; (first | refine c_cond_t rfl ?_ | refine c_cond_f rfl ?_ | ((first | refine c_cond_d rfl (fun h => ?_) (fun h => ?_) | refine c_cond_n rfl (fun h => ?_) (fun h => ?_)) <;> (try (first | contradiction | (exfalso; omega)))) | refine c_cond_nb rfl (fun h => ?_) (fun h => ?_) | refine c_cond rfl (fun h => ?_) (fun h => ?_))) | refine c_block ?_ | refine c_skip ?_ | refine c_exit ?_ | refine c_regionQN rfl rfl (by decide +kernel) ?_)) | apply s_stepQ | (refine kQG ?_; (first | refine s_gyesQ rfl rfl rfl ?_ | refine s_gnoQ rfl rfl rfl rfl rfl ?_ | ((first | refine s_splitQ_d rfl rfl (fun h => ?_) (fun h => ?_) | refine s_splitQ_n rfl rfl (fun h => ?_) (fun h => ?_)) <;> (try (first | contradiction | (exfalso; omega)))) | refine s_splitQ_nb rfl rfl (fun h => ?_) (fun h => ?_) | refine s_splitQ rfl rfl (fun h => ?_) (fun h => ?_))) | refine lQ_then ?_ | refine lQ_ends ?_ | (refine kE ?_; (first | refine e_then_r ?_ | refine e_block_r ?_ | refine e_then_n ?_ | refine e_then_x ?_ | refine e_block_n ?_ | refine e_block_x ?_ | refine e_block_y rfl ?_)) | refine l_ends ?_)
  all_goals refine s_leave1 rfl rfl (fun w hw => ⟨?_, hw.below⟩)
  all_goals first | (refine ret_false (fun hh => ?_); unfold opaqueP pixP at hh; omega) | exact ret_dec ⟨fun hh => ⟨by unfold pixP; omega, hh⟩, fun hh => hh.2⟩
theorem c_isceneOk (s : DScene) (v : Value) (w : World) (hv : RS eSurf w v s.ss) : SYields Tryz.prog 22 #[vScene s v] (.bool (decide s.ok)) w := by
  have hv' := hv.form
  obtain ⟨_, _, rfl⟩ := hv'
  obtain ⟨ds, hv⟩ := hv
  have hl := hv.row.len
  have hf := fun i => (hv.rd i)
  (first | apply SYields.mk | apply SYieldsF.mk | skip); refine s_enter Tryz.func22 rfl Tryz.ntmps22 rfl ?_
  repeat' (first | exact rfl | (apply kO; (first | exact ov_pure rfl | (apply kOBin; (first | exact aBin)) | (apply kOCall; (first | (apply kCallF; (first | exact (ov_call rfl (fun w hw => c_isSide _ w)) | exact (ov_call rfl (fun w hw => c_isOpaquePixel _ w)) | exact (ov_call rfl (fun w hw => c_isurfaceOk _ _ w (RInts.keep (hv.rd _ (by omega)) (hw.cells rfl)))))) | (apply kCallB; (first | exact aBlt | exact aLenR)))) | (apply kOLoad; (first | exact aLdF | exact aLdR)) | exact ov_fieldAddr rfl | (apply kOIdx; (first | exact aIdx)) | exact aRest | (apply kLookup; exact (ov_lookupB rfl rfl gpA)) | exact aNew | exact (ov_field1 (ft := 31) rfl rfl rfl rfl))) | (refine kN ?_; (first | (refine kStore ?_; (first | (refine s_storeS _ rfl rfl gpA rfl (eSurf_ones (RInts.one (hv.rd _ (by omega)))) (by rfl) ?_) | refine s_store1 _ rfl rfl gpA rfl (by rfl) ?_ | refine s_storeS _ rfl rfl gpA rfl rfl (by rfl) ?_ | refine s_storeS _ rfl rfl gpA rfl (ones_img oiA) (by rfl) ?_)) | refine s_boxS rfl rfl (fun b hb => ?_) | refine s_allocS rfl (fun b hb => ?_) | refine s_box1 rfl rfl rfl (fun b hb => ?_) | refine s_alloc1 rfl rfl (fun b hb => ?_) | (refine s_makeMap rfl (fun b hb => ?_)) | (refine kWMap ?_; (refine s_mapUpdateB _ rfl rfl rfl gpA (by assumption) ?_)) | refine s_buildSlice0 rfl (fun b hb => ?_) | refine s_buildSlice rfl rfl rfl rfl rfl (fun b hb => ?_) | apply s_step)) | (refine kG ?_; (first | refine s_gyes rfl rfl rfl ?_ | refine s_gno rfl rfl rfl rfl rfl ?_ | ((first | refine s_split_d rfl rfl (fun h => ?_) (fun h => ?_) | refine s_split_n rfl rfl (fun h => ?_) (fun h => ?_)) <;> (try (first | contradiction | (exfalso; omega)))) | refine s_split_nb rfl rfl (fun h => ?_) (fun h => ?_) | refine s_split rfl rfl (fun h => ?_) (fun h => ?_))) | refine l_then ?_ | (refine kC ?_; (first | (refine c_loopV (ι := Nat) (fun j => j ≤ s.ss.length ∧ surfsOk s.ss j) (fun j => [(32, .int .i64 (j : Int))]) (fun j => [[(b, mobj (idsTo s.ss j))], _]) (fun j => s.ss.length - j) 0 ⟨by omega, surfsOk_zero _⟩ rfl (fun _ => rfl) ⟨rfl, trivial⟩ (fun w hw => hw) (fun j hj => ?_)) | refine c_seq ?_ | refine c_regionN rfl ?_ | refine c_ret ?_ | (refine kCond ?_; (first | refine c_cond_t rfl ?_ | refine c_cond_f rfl ?_ | ((first | refine c_cond_d rfl (fun h => ?_) (fun h => ?_) | refine c_cond_n rfl (fun h => ?_) (fun h => ?_)) <;> (try (first | contradiction | (exfalso; omega)))) | refine c_cond_nb rfl (fun h => ?_) (fun h => ?_) | refine c_cond rfl (fun h => ?_) (fun h => ?_))) | refine c_block ?_ | refine c_skip ?_ | refine c_exit ?_ | refine c_regionQN rfl rfl (by decide +kernel) ?_)) | apply s_stepQ | (refine kQG ?_; (first | refine s_gyesQ rfl rfl rfl ?_ | refine s_gnoQ rfl rfl rfl rfl rfl ?_ | ((first | refine s_splitQ_d rfl rfl (fun h => ?_) (fun h => ?_) | refine s_splitQ_n rfl rfl (fun h => ?_) (fun h => ?_)) <;> (try (first | contradiction | (exfalso; omega)))) | refine s_splitQ_nb rfl rfl (fun h => ?_) (fun h => ?_) | refine s_splitQ rfl rfl (fun h => ?_) (fun h => ?_))) | refine lQ_then ?_ | refine lQ_ends ?_ | (refine kE ?_; (first | refine e_then_r ?_ | refine e_block_r ?_ | refine e_then_n ?_ | refine e_then_x ?_ | refine e_block_n ?_ | refine e_block_x ?_ | refine e_block_y rfl ?_)) | refine l_ends ?_)
  all_goals try simp only [Int.toNat_natCast, eSurf_dflt] at *
  any_goals (exact e_round (j + 1) ⟨by omega, surfsOk_next hj.2 (by assumption) (fun i hi he => absurd (mem_idsTo.2 ⟨i, hi, he⟩) (by assumption))⟩ ⟨rfl, (by repeat' first | exact trivial | refine ⟨rfl, ?_⟩)⟩ (fun w hw => by simp only [idsTo_succ]; exact hw.sub (by repeat' first | exact List.nil_sublist _ | exact List.Sublist.slnil | refine List.Sublist.cons_cons _ ?_ | refine List.Sublist.cons _ ?_)) (by omega))
  all_goals refine s_leave1 rfl rfl (fun w hw => ⟨?_, hw.below⟩)
  all_goals first | exact ret_true ⟨by assumption, by assumption, by assumption, by omega, fun q hq => hj.2 q (by omega)⟩ | (refine ret_false (fun hh => ?_); obtain ⟨h1, h2, h3, h4, h5⟩ := hh; first | contradiction | omega | exact absurd (h5 j (by omega)).1 (by assumption) | (obtain ⟨i, hi, he⟩ := mem_idsTo.1 (show (s.ss.getD j default).Id ∈ idsTo s.ss j by assumption); exact (h5 j (by omega)).2 i hi he))
theorem c_ssceneOk (s : DScene) (v : Value) (w : World) (hv : RS eSurf w v s.ss) : SYields Tryz.prog 36 #[vScene s v] (.bool (decide s.ok)) w := by
  have hve := hv
  obtain ⟨ds, hv⟩ := hv
  have hl := hv.row.len
  (first | apply SYields.mk | apply SYieldsF.mk | skip); refine s_enter Tryz.func36 rfl Tryz.ntmps36 rfl ?_
  repeat' (first | exact rfl | (apply kO; (first | exact ov_pure rfl | (apply kOBin; (first | exact aBin)) | (apply kOCall; (first | (apply kCallF; (first | exact (ov_call rfl (fun w hw => c_l01In _ _ _ w)) | exact (ov_call rfl (fun w hw => c_l10Opaque _ w)) | exact (ov_call rfl (fun w hw => c_ssurfaceOk _ _ w (RInts.keep (hv.rd _ (by omega)) (hw.cells rfl)))) | exact (ov_call rfl (fun w hw => c_ssurfaceIndex _ _ _ w (hve.keep (hw.cells rfl)))))) | (apply kCallB; (first | exact aBlt | exact aLenR)))) | (apply kOLoad; (first | exact aLdF | exact aLdR)) | exact ov_fieldAddr rfl | (apply kOIdx; (first | exact aIdx)) | exact aRest | exact aNew | exact (ov_field1 (ft := 31) rfl rfl rfl rfl))) | (refine kN ?_; (first | (refine kStore ?_; (first | refine s_store1 _ rfl rfl gpA rfl (by rfl) ?_ | refine s_storeS _ rfl rfl gpA rfl rfl (by rfl) ?_ | refine s_storeS _ rfl rfl gpA rfl (ones_img oiA) (by rfl) ?_)) | refine s_boxS rfl rfl (fun b hb => ?_) | refine s_allocS rfl (fun b hb => ?_) | refine s_box1 rfl rfl rfl (fun b hb => ?_) | refine s_alloc1 rfl rfl (fun b hb => ?_) | refine s_buildSlice0 rfl (fun b hb => ?_) | refine s_buildSlice rfl rfl rfl rfl rfl (fun b hb => ?_) | apply s_step)) | (refine kG ?_; (first | refine s_gyes rfl rfl rfl ?_ | refine s_gno rfl rfl rfl rfl rfl ?_ | ((first | refine s_split_d rfl rfl (fun h => ?_) (fun h => ?_) | refine s_split_n rfl rfl (fun h => ?_) (fun h => ?_)) <;> (try (first | contradiction | (exfalso; omega)))) | refine s_split_nb rfl rfl (fun h => ?_) (fun h => ?_) | refine s_split rfl rfl (fun h => ?_) (fun h => ?_))) | refine l_then ?_ | (refine kC ?_; (first | (refine c_loopV (ι := Nat) (fun j => j ≤ s.ss.length ∧ surfsOk s.ss j) (fun j => [(3, .int .i64 (j : Int))]) (fun j => [_]) (fun j => s.ss.length - j) 0 ⟨by omega, surfsOk_zero _⟩ rfl (fun _ => rfl) ⟨rfl, trivial⟩ (fun w hw => hw) (fun j hj => ?_)) | refine c_seq ?_ | refine c_regionN rfl ?_ | refine c_ret ?_ | (refine kCond ?_; (first | refine c_cond_t rfl ?_ | refine c_cond_f rfl ?_ | ((first | refine c_cond_d rfl (fun h => ?_) (fun h => ?_) | refine c_cond_n rfl (fun h => ?_) (fun h => ?_)) <;> (try (first | contradiction | (exfalso; omega)))) | refine c_cond_nb rfl (fun h => ?_) (fun h => ?_) | refine c_cond rfl (fun h => ?_) (fun h => ?_))) | refine c_block ?_ | refine c_skip ?_ | refine c_exit ?_ | refine c_regionQN rfl rfl (by decide +kernel) ?_)) | apply s_stepQ | (refine kQG ?_; (first | refine s_gyesQ rfl rfl rfl ?_ | refine s_gnoQ rfl rfl rfl rfl rfl ?_ | ((first | refine s_splitQ_d rfl rfl (fun h => ?_) (fun h => ?_) | refine s_splitQ_n rfl rfl (fun h => ?_) (fun h => ?_)) <;> (try (first | contradiction | (exfalso; omega)))) | refine s_splitQ_nb rfl rfl (fun h => ?_) (fun h => ?_) | refine s_splitQ rfl rfl (fun h => ?_) (fun h => ?_))) | refine lQ_then ?_ | refine lQ_ends ?_ | (refine kE ?_; (first | refine e_then_r ?_ | refine e_block_r ?_ | refine e_then_n ?_ | refine e_then_x ?_ | refine e_block_n ?_ | refine e_block_x ?_ | refine e_block_y rfl ?_)) | refine l_ends ?_)
  all_goals try simp only [Int.toNat_natCast, eSurf_dflt] at *
  all_goals try (exact e_round (j + 1) ⟨by omega, surfsOk_next hj.2 (by assumption) ((surfaceIndex_self (by omega)).1 (by omega))⟩ ⟨rfl, (by repeat' first | exact trivial | refine ⟨rfl, ?_⟩)⟩ (fun w hw => hw) (by omega))
  all_goals refine s_leave1 rfl rfl (fun w hw => ⟨?_, hw.below⟩)
  all_goals first | exact ret_true ⟨by assumption, by assumption, by assumption, by omega, fun q hq => hj.2 q (by omega)⟩ | (refine ret_false (fun hh => ?_); obtain ⟨h1, h2, h3, h4, h5⟩ := hh; first | contradiction | omega | exact absurd (h5 j (by omega)).1 (by assumption) | exact absurd ((surfaceIndex_self (by omega)).2 (h5 j (by omega)).2) (by assumption))
end Go.Proofs.YtpcammhmgleonaaGreat
namespace Go.Proofs.YtpcammhmgleonaaGreat
open Go Sx
attribute [local irreducible] Exit.then Exit.inBlock bodyPost
theorem c_irectOk (r : DRect) (w : World) : SYields Tryz.prog 90 #[vRect r] (.bool (decide r.ok)) w := by
  (first | apply SYields.mk | apply SYieldsF.mk | skip); refine s_enter Tryz.func90 rfl Tryz.ntmps90 rfl ?_
  repeat' (first | exact rfl | (apply kO; (first | exact ov_pure rfl | (apply kOBin; (first | exact aBin)) | (apply kOCall; (first | (apply kCallF; (first | exact (ov_call rfl (fun w hw => c_within _ _ _ w)))) | (apply kCallB; (first | exact aBlt | exact aLenR)))) | (apply kOLoad; (first | exact aLdF | exact aLdR)) | exact ov_fieldAddr rfl | (apply kOIdx; (first | exact aIdx)) | exact aRest | exact aNew | exact (ov_field1 (ft := 31) rfl rfl rfl rfl))) | (refine kN ?_; (first | (refine kStore ?_; (first | refine s_store1 _ rfl rfl gpA rfl (by rfl) ?_ | refine s_storeS _ rfl rfl gpA rfl rfl (by rfl) ?_ | refine s_storeS _ rfl rfl gpA rfl (ones_img oiA) (by rfl) ?_)) | refine s_boxS rfl rfl (fun b hb => ?_) | refine s_allocS rfl (fun b hb => ?_) | refine s_box1 rfl rfl rfl (fun b hb => ?_) | refine s_alloc1 rfl rfl (fun b hb => ?_) | refine s_buildSlice0 rfl (fun b hb => ?_) | refine s_buildSlice rfl rfl rfl rfl rfl (fun b hb => ?_) | apply s_step)) | (refine kG ?_; (first | refine s_gyes rfl rfl rfl ?_ | refine s_gno rfl rfl rfl rfl rfl ?_ | ((first | refine s_split_d rfl rfl (fun h => ?_) (fun h => ?_) | refine s_split_n rfl rfl (fun h => ?_) (fun h => ?_)) <;> (try (first | contradiction | (exfalso; omega)))) | refine s_split_nb rfl rfl (fun h => ?_) (fun h => ?_) | refine s_split rfl rfl (fun h => ?_) (fun h => ?_))) | refine l_then ?_ | (refine kC ?_; (first | refine c_seq ?_ | refine c_regionN rfl ?_ | refine c_ret ?_ | (refine kCond ?_; (first | refine c_cond_t rfl ?_ | refine c_cond_f rfl ?_ | ((first | refine c_cond_d rfl (fun h => ?_) (fun h => ?_) | refine c_cond_n rfl (fun h => ?_) (fun h => ?_)) <;> (try (first | contradiction | (exfalso; omega)))) | refine c_cond_nb rfl (fun h => ?_) (fun h => ?_) | refine c_cond rfl (fun h => ?_) (fun h => ?_))) | refine c_block ?_ | refine c_skip ?_ | refine c_exit ?_ | refine c_regionQN rfl rfl (by decide +kernel) ?_)) | apply s_stepQ | (refine kQG ?_; (first | refine s_gyesQ rfl rfl rfl ?_ | refine s_gnoQ rfl rfl rfl rfl rfl ?_ | ((first | refine s_splitQ_d rfl rfl (fun h => ?_) (fun h => ?_) | refine s_splitQ_n rfl rfl (fun h => ?_) (fun h => ?_)) <;> (try (first | contradiction | (exfalso; omega)))) | refine s_splitQ_nb rfl rfl (fun h => ?_) (fun h => ?_) | refine s_splitQ rfl rfl (fun h => ?_) (fun h => ?_))) | refine lQ_then ?_ | refine lQ_ends ?_ | (refine kE ?_; (first | refine e_then_r ?_ | refine e_block_r ?_ | refine e_then_n ?_ | refine e_then_x ?_ | refine e_block_n ?_ | refine e_block_x ?_ | refine e_block_y rfl ?_)) | refine l_ends ?_)
  all_goals refine s_leave1 rfl rfl (fun w hw => ⟨?_, hw.below⟩)
  all_goals first | (refine ret_false (fun hh => ?_); unfold DRect.ok at hh; omega) | exact ret_dec (by unfold DRect.ok; omega)
theorem c_srectOk (r : DRect) (w : World) : SYields Tryz.prog 102 #[vRect r] (.bool (decide r.ok)) w := by
  (first | apply SYields.mk | apply SYieldsF.mk | skip); refine s_enter Tryz.func102 rfl Tryz.ntmps102 rfl ?_
  repeat' (first | exact rfl | (apply kO; (first | exact ov_pure rfl | (apply kOBin; (first | exact aBin)) | (apply kOCall; (first | (apply kCallF; (first | exact (ov_call rfl (fun w hw => c_l01In _ _ _ w)))) | (apply kCallB; (first | exact aBlt | exact aLenR)))) | (apply kOLoad; (first | exact aLdF | exact aLdR)) | exact ov_fieldAddr rfl | (apply kOIdx; (first | exact aIdx)) | exact aRest | exact aNew | exact (ov_field1 (ft := 31) rfl rfl rfl rfl))) | (refine kN ?_; (first | (refine kStore ?_; (first | refine s_store1 _ rfl rfl gpA rfl (by rfl) ?_ | refine s_storeS _ rfl rfl gpA rfl rfl (by rfl) ?_ | refine s_storeS _ rfl rfl gpA rfl (ones_img oiA) (by rfl) ?_)) | refine s_boxS rfl rfl (fun b hb => ?_) | refine s_allocS rfl (fun b hb => ?_) | refine s_box1 rfl rfl rfl (fun b hb => ?_) | refine s_alloc1 rfl rfl (fun b hb => ?_) | refine s_buildSlice0 rfl (fun b hb => ?_) | refine s_buildSlice rfl rfl rfl rfl rfl (fun b hb => ?_) | apply s_step)) | (refine kG ?_; (first | refine s_gyes rfl rfl rfl ?_ | refine s_gno rfl rfl rfl rfl rfl ?_ | ((first | refine s_split_d rfl rfl (fun h => ?_) (fun h => ?_) | refine s_split_n rfl rfl (fun h => ?_) (fun h => ?_)) <;> (try (first | contradiction | (exfalso; omega)))) | refine s_split_nb rfl rfl (fun h => ?_) (fun h => ?_) | refine s_split rfl rfl (fun h => ?_) (fun h => ?_))) | refine l_then ?_ | (refine kC ?_; (first | refine c_seq ?_ | refine c_regionN rfl ?_ | refine c_ret ?_ | (refine kCond ?_; (first | refine c_cond_t rfl ?_ | refine c_cond_f rfl ?_ | ((first | refine c_cond_d rfl (fun h => ?_) (fun h => ?_) | refine c_cond_n rfl (fun h => ?_) (fun h => ?_)) <;> (try (first | contradiction | (exfalso; omega)))) | refine c_cond_nb rfl (fun h => ?_) (fun h => ?_) | refine c_cond rfl (fun h => ?_) (fun h => ?_))) | refine c_block ?_ | refine c_skip ?_ | refine c_exit ?_ | refine c_regionQN rfl rfl (by decide +kernel) ?_)) | apply s_stepQ | (refine kQG ?_; (first | refine s_gyesQ rfl rfl rfl ?_ | refine s_gnoQ rfl rfl rfl rfl rfl ?_ | ((first | refine s_splitQ_d rfl rfl (fun h => ?_) (fun h => ?_) | refine s_splitQ_n rfl rfl (fun h => ?_) (fun h => ?_)) <;> (try (first | contradiction | (exfalso; omega)))) | refine s_splitQ_nb rfl rfl (fun h => ?_) (fun h => ?_) | refine s_splitQ rfl rfl (fun h => ?_) (fun h => ?_))) | refine lQ_then ?_ | refine lQ_ends ?_ | (refine kE ?_; (first | refine e_then_r ?_ | refine e_block_r ?_ | refine e_then_n ?_ | refine e_then_x ?_ | refine e_block_n ?_ | refine e_block_x ?_ | refine e_block_y rfl ?_)) | refine l_ends ?_)
  all_goals refine s_leave1 rfl rfl (fun w hw => ⟨?_, hw.below⟩)
  all_goals first | (refine ret_false (fun hh => ?_); unfold DRect.ok at hh; omega) | exact ret_dec (by unfold DRect.ok; omega)
theorem ret_rectv {a b c d : Int} {q : DRect} (h : (⟨a, b, c, d⟩ : DRect) = q) : Ending.returned (.agg [Value.int .i64 a, .int .i64 b, .int .i64 c, .int .i64 d].toArray) = .returned (vRect q) := by rw [← h]
theorem ret_pair {a b c d : Int} (h1 : a = c) (h2 : b = d) : Ending.returned (.tuple #[.int .i64 a, .int .i64 b]) = .returned (.tuple #[.int .i64 c, .int .i64 d]) := by rw [h1, h2]
theorem c_iintersect (p q : DRect) (w : World) : SYields Tryz.prog 59 #[vRect p, vRect q] (vRect (p.inter q)) w := by
  by_cases hp : p.ok
  · by_cases hq : q.ok
    · have hp' := hp
      have hq' := hq
      unfold DRect.ok at hp' hq'
      (first | apply SYields.mk | apply SYieldsF.mk | skip); refine s_enter Tryz.func59 rfl Tryz.ntmps59 rfl ?_
      repeat' (first | exact rfl | (apply kO; (first | exact ov_pure rfl | (apply kOBin; (first | exact aBin)) | (apply kOCall; (first | (apply kCallF; (first | exact (ov_call rfl (fun w hw => c_irectOk _ w)))) | (apply kCallB; (first | exact aBlt | exact aLenR)))) | (apply kOLoad; (first | exact aLdF | exact aLdR)) | exact ov_fieldAddr rfl | (apply kOIdx; (first | exact aIdx)) | exact aRest | exact aNew | exact (ov_field1 (ft := 31) rfl rfl rfl rfl))) | (refine kN ?_; (first | (refine kStore ?_; (first | refine s_store1 _ rfl rfl gpA rfl (by rfl) ?_ | refine s_storeS _ rfl rfl gpA rfl rfl (by rfl) ?_ | refine s_storeS _ rfl rfl gpA rfl (ones_img oiA) (by rfl) ?_)) | refine s_boxS rfl rfl (fun b hb => ?_) | refine s_allocS rfl (fun b hb => ?_) | refine s_box1 rfl rfl rfl (fun b hb => ?_) | refine s_alloc1 rfl rfl (fun b hb => ?_) | refine s_buildSlice0 rfl (fun b hb => ?_) | refine s_buildSlice rfl rfl rfl rfl rfl (fun b hb => ?_) | apply s_step)) | (refine kG ?_; (first | refine s_gyes rfl rfl rfl ?_ | refine s_gno rfl rfl rfl rfl rfl ?_ | ((first | refine s_split_d rfl rfl (fun h => ?_) (fun h => ?_) | refine s_split_n rfl rfl (fun h => ?_) (fun h => ?_)) <;> (try (first | contradiction | (exfalso; omega)))) | refine s_split_nb rfl rfl (fun h => ?_) (fun h => ?_) | refine s_split rfl rfl (fun h => ?_) (fun h => ?_))) | refine l_then ?_ | (refine kC ?_; (first | refine c_seq ?_ | refine c_regionN rfl ?_ | refine c_ret ?_ | (refine kCond ?_; (first | refine c_cond_t rfl ?_ | refine c_cond_f rfl ?_ | ((first | refine c_cond_d rfl (fun h => ?_) (fun h => ?_) | refine c_cond_n rfl (fun h => ?_) (fun h => ?_)) <;> (try (first | contradiction | (exfalso; omega)))) | refine c_cond_nb rfl (fun h => ?_) (fun h => ?_) | refine c_cond rfl (fun h => ?_) (fun h => ?_))) | refine c_block ?_ | refine c_skip ?_ | refine c_exit ?_ | refine c_regionQN rfl rfl (by decide +kernel) ?_)) | apply s_stepQ | (refine kQG ?_; (first | refine s_gyesQ rfl rfl rfl ?_ | refine s_gnoQ rfl rfl rfl rfl rfl ?_ | ((first | refine s_splitQ_d rfl rfl (fun h => ?_) (fun h => ?_) | refine s_splitQ_n rfl rfl (fun h => ?_) (fun h => ?_)) <;> (try (first | contradiction | (exfalso; omega)))) | refine s_splitQ_nb rfl rfl (fun h => ?_) (fun h => ?_) | refine s_splitQ rfl rfl (fun h => ?_) (fun h => ?_))) | refine lQ_then ?_ | refine lQ_ends ?_ | (refine kE ?_; (first | refine e_then_r ?_ | refine e_block_r ?_ | refine e_then_n ?_ | refine e_then_x ?_ | refine e_block_n ?_ | refine e_block_x ?_ | refine e_block_y rfl ?_)) | refine l_ends ?_)
      all_goals (refine kE ?_; refine s_leaveSF rfl rfl rfl fwA (fun w hw => ?_))
      all_goals refine ⟨ret_rectv ?_, hw.below⟩
      all_goals (unfold DRect.inter; rw [if_pos ⟨hp, hq⟩]; first | rw [if_pos (by omega)]; rfl | rw [if_neg (by omega)])
    · (first | apply SYields.mk | apply SYieldsF.mk | skip); refine s_enter Tryz.func59 rfl Tryz.ntmps59 rfl ?_
      repeat' (first | exact rfl | (apply kO; (first | exact ov_pure rfl | (apply kOBin; (first | exact aBin)) | (apply kOCall; (first | (apply kCallF; (first | exact (ov_call rfl (fun w hw => c_irectOk _ w)))) | (apply kCallB; (first | exact aBlt | exact aLenR)))) | (apply kOLoad; (first | exact aLdF | exact aLdR)) | exact ov_fieldAddr rfl | (apply kOIdx; (first | exact aIdx)) | exact aRest | exact aNew | exact (ov_field1 (ft := 31) rfl rfl rfl rfl))) | (refine kN ?_; (first | (refine kStore ?_; (first | refine s_store1 _ rfl rfl gpA rfl (by rfl) ?_ | refine s_storeS _ rfl rfl gpA rfl rfl (by rfl) ?_ | refine s_storeS _ rfl rfl gpA rfl (ones_img oiA) (by rfl) ?_)) | refine s_boxS rfl rfl (fun b hb => ?_) | refine s_allocS rfl (fun b hb => ?_) | refine s_box1 rfl rfl rfl (fun b hb => ?_) | refine s_alloc1 rfl rfl (fun b hb => ?_) | refine s_buildSlice0 rfl (fun b hb => ?_) | refine s_buildSlice rfl rfl rfl rfl rfl (fun b hb => ?_) | apply s_step)) | (refine kG ?_; (first | refine s_gyes rfl rfl rfl ?_ | refine s_gno rfl rfl rfl rfl rfl ?_ | ((first | refine s_split_d rfl rfl (fun h => ?_) (fun h => ?_) | refine s_split_n rfl rfl (fun h => ?_) (fun h => ?_)) <;> (try (first | contradiction | (exfalso; omega)))) | refine s_split_nb rfl rfl (fun h => ?_) (fun h => ?_) | refine s_split rfl rfl (fun h => ?_) (fun h => ?_))) | refine l_then ?_ | (refine kC ?_; (first | refine c_seq ?_ | refine c_regionN rfl ?_ | refine c_ret ?_ | (refine kCond ?_; (first | refine c_cond_t rfl ?_ | refine c_cond_f rfl ?_ | ((first | refine c_cond_d rfl (fun h => ?_) (fun h => ?_) | refine c_cond_n rfl (fun h => ?_) (fun h => ?_)) <;> (try (first | contradiction | (exfalso; omega)))) | refine c_cond_nb rfl (fun h => ?_) (fun h => ?_) | refine c_cond rfl (fun h => ?_) (fun h => ?_))) | refine c_block ?_ | refine c_skip ?_ | refine c_exit ?_ | refine c_regionQN rfl rfl (by decide +kernel) ?_)) | apply s_stepQ | (refine kQG ?_; (first | refine s_gyesQ rfl rfl rfl ?_ | refine s_gnoQ rfl rfl rfl rfl rfl ?_ | ((first | refine s_splitQ_d rfl rfl (fun h => ?_) (fun h => ?_) | refine s_splitQ_n rfl rfl (fun h => ?_) (fun h => ?_)) <;> (try (first | contradiction | (exfalso; omega)))) | refine s_splitQ_nb rfl rfl (fun h => ?_) (fun h => ?_) | refine s_splitQ rfl rfl (fun h => ?_) (fun h => ?_))) | refine lQ_then ?_ | refine lQ_ends ?_ | (refine kE ?_; (first | refine e_then_r ?_ | refine e_block_r ?_ | refine e_then_n ?_ | refine e_then_x ?_ | refine e_block_n ?_ | refine e_block_x ?_ | refine e_block_y rfl ?_)) | refine l_ends ?_)
      all_goals (refine kE ?_; refine s_leaveSF rfl rfl rfl fwA (fun w hw => ?_))
      all_goals refine ⟨ret_rectv ?_, hw.below⟩
      all_goals (unfold DRect.inter; rw [if_neg (fun h => hq h.2)]; rfl)
  · (first | apply SYields.mk | apply SYieldsF.mk | skip); refine s_enter Tryz.func59 rfl Tryz.ntmps59 rfl ?_
    repeat' (first | exact rfl | (apply kO; (first | exact ov_pure rfl | (apply kOBin; (first | exact aBin)) | (apply kOCall; (first | (apply kCallF; (first | exact (ov_call rfl (fun w hw => c_irectOk _ w)))) | (apply kCallB; (first | exact aBlt | exact aLenR)))) | (apply kOLoad; (first | exact aLdF | exact aLdR)) | exact ov_fieldAddr rfl | (apply kOIdx; (first | exact aIdx)) | exact aRest | exact aNew | exact (ov_field1 (ft := 31) rfl rfl rfl rfl))) | (refine kN ?_; (first | (refine kStore ?_; (first | refine s_store1 _ rfl rfl gpA rfl (by rfl) ?_ | refine s_storeS _ rfl rfl gpA rfl rfl (by rfl) ?_ | refine s_storeS _ rfl rfl gpA rfl (ones_img oiA) (by rfl) ?_)) | refine s_boxS rfl rfl (fun b hb => ?_) | refine s_allocS rfl (fun b hb => ?_) | refine s_box1 rfl rfl rfl (fun b hb => ?_) | refine s_alloc1 rfl rfl (fun b hb => ?_) | refine s_buildSlice0 rfl (fun b hb => ?_) | refine s_buildSlice rfl rfl rfl rfl rfl (fun b hb => ?_) | apply s_step)) | (refine kG ?_; (first | refine s_gyes rfl rfl rfl ?_ | refine s_gno rfl rfl rfl rfl rfl ?_ | ((first | refine s_split_d rfl rfl (fun h => ?_) (fun h => ?_) | refine s_split_n rfl rfl (fun h => ?_) (fun h => ?_)) <;> (try (first | contradiction | (exfalso; omega)))) | refine s_split_nb rfl rfl (fun h => ?_) (fun h => ?_) | refine s_split rfl rfl (fun h => ?_) (fun h => ?_))) | refine l_then ?_ | (refine kC ?_; (first | refine c_seq ?_ | refine c_regionN rfl ?_ | refine c_ret ?_ | (refine kCond ?_; (first | refine c_cond_t rfl ?_ | refine c_cond_f rfl ?_ | ((first | refine c_cond_d rfl (fun h => ?_) (fun h => ?_) | refine c_cond_n rfl (fun h => ?_) (fun h => ?_)) <;> (try (first | contradiction | (exfalso; omega)))) | refine c_cond_nb rfl (fun h => ?_) (fun h => ?_) | refine c_cond rfl (fun h => ?_) (fun h => ?_))) | refine c_block ?_ | refine c_skip ?_ | refine c_exit ?_ | refine c_regionQN rfl rfl (by decide +kernel) ?_)) | apply s_stepQ | (refine kQG ?_; (first | refine s_gyesQ rfl rfl rfl ?_ | refine s_gnoQ rfl rfl rfl rfl rfl ?_ | ((first | refine s_splitQ_d rfl rfl (fun h => ?_) (fun h => ?_) | refine s_splitQ_n rfl rfl (fun h => ?_) (fun h => ?_)) <;> (try (first | contradiction | (exfalso; omega)))) | refine s_splitQ_nb rfl rfl (fun h => ?_) (fun h => ?_) | refine s_splitQ rfl rfl (fun h => ?_) (fun h => ?_))) | refine lQ_then ?_ | refine lQ_ends ?_ | (refine kE ?_; (first | refine e_then_r ?_ | refine e_block_r ?_ | refine e_then_n ?_ | refine e_then_x ?_ | refine e_block_n ?_ | refine e_block_x ?_ | refine e_block_y rfl ?_)) | refine l_ends ?_)
    all_goals (refine kE ?_; refine s_leaveSF rfl rfl rfl fwA (fun w hw => ?_))
    all_goals refine ⟨ret_rectv ?_, hw.below⟩
    all_goals (unfold DRect.inter; rw [if_neg (fun h => hp h.1)]; rfl)
theorem c_sintersect (p q : DRect) (w : World) : SYields Tryz.prog 73 #[vRect p, vRect q] (vRect (p.inter q)) w := by
  by_cases hp : p.ok
  · by_cases hq : q.ok
    · have hp' := hp
      have hq' := hq
      unfold DRect.ok at hp' hq'
      (first | apply SYields.mk | apply SYieldsF.mk | skip); refine s_enter Tryz.func73 rfl Tryz.ntmps73 rfl ?_
      repeat' (first | exact rfl | (apply kO; (first | exact ov_pure rfl | (apply kOBin; (first | exact aBin)) | (apply kOCall; (first | (apply kCallF; (first | exact (ov_call rfl (fun w hw => c_srectOk _ w)))) | (apply kCallB; (first | exact aBlt | exact aLenR)))) | (apply kOLoad; (first | exact aLdF | exact aLdR)) | exact ov_fieldAddr rfl | (apply kOIdx; (first | exact aIdx)) | exact aRest | exact aNew | exact (ov_field1 (ft := 31) rfl rfl rfl rfl))) | (refine kN ?_; (first | (refine kStore ?_; (first | refine s_store1 _ rfl rfl gpA rfl (by rfl) ?_ | refine s_storeS _ rfl rfl gpA rfl rfl (by rfl) ?_ | refine s_storeS _ rfl rfl gpA rfl (ones_img oiA) (by rfl) ?_)) | refine s_boxS rfl rfl (fun b hb => ?_) | refine s_allocS rfl (fun b hb => ?_) | refine s_box1 rfl rfl rfl (fun b hb => ?_) | refine s_alloc1 rfl rfl (fun b hb => ?_) | refine s_buildSlice0 rfl (fun b hb => ?_) | refine s_buildSlice rfl rfl rfl rfl rfl (fun b hb => ?_) | apply s_step)) | (refine kG ?_; (first | refine s_gyes rfl rfl rfl ?_ | refine s_gno rfl rfl rfl rfl rfl ?_ | ((first | refine s_split_d rfl rfl (fun h => ?_) (fun h => ?_) | refine s_split_n rfl rfl (fun h => ?_) (fun h => ?_)) <;> (try (first | contradiction | (exfalso; omega)))) | refine s_split_nb rfl rfl (fun h => ?_) (fun h => ?_) | refine s_split rfl rfl (fun h => ?_) (fun h => ?_))) | refine l_then ?_ | (refine kC ?_; (first | refine c_seq ?_ | refine c_regionN rfl ?_ | refine c_ret ?_ | (refine kCond ?_; (first | refine c_cond_t rfl ?_ | refine c_cond_f rfl ?_ | ((first | refine c_cond_d rfl (fun h => ?_) (fun h => ?_) | refine c_cond_n rfl (fun h => ?_) (fun h => ?_)) <;> (try (first | contradiction | (exfalso; omega)))) | refine c_cond_nb rfl (fun h => ?_) (fun h => ?_) | refine c_cond rfl (fun h => ?_) (fun h => ?_))) | refine c_block ?_ | refine c_skip ?_ | refine c_exit ?_ | refine c_regionQN rfl rfl (by decide +kernel) ?_)) | apply s_stepQ | (refine kQG ?_; (first | refine s_gyesQ rfl rfl rfl ?_ | refine s_gnoQ rfl rfl rfl rfl rfl ?_ | ((first | refine s_splitQ_d rfl rfl (fun h => ?_) (fun h => ?_) | refine s_splitQ_n rfl rfl (fun h => ?_) (fun h => ?_)) <;> (try (first | contradiction | (exfalso; omega)))) | refine s_splitQ_nb rfl rfl (fun h => ?_) (fun h => ?_) | refine s_splitQ rfl rfl (fun h => ?_) (fun h => ?_))) | refine lQ_then ?_ | refine lQ_ends ?_ | (refine kE ?_; (first | refine e_then_r ?_ | refine e_block_r ?_ | refine e_then_n ?_ | refine e_then_x ?_ | refine e_block_n ?_ | refine e_block_x ?_ | refine e_block_y rfl ?_)) | refine l_ends ?_)
      all_goals (refine kE ?_; refine s_leaveSF rfl rfl rfl fwA (fun w hw => ?_))
      all_goals refine ⟨ret_rectv ?_, hw.below⟩
      all_goals (unfold DRect.inter; rw [if_pos ⟨hp, hq⟩]; first | rw [if_pos (by omega)]; rfl | rw [if_neg (by omega)])
    · (first | apply SYields.mk | apply SYieldsF.mk | skip); refine s_enter Tryz.func73 rfl Tryz.ntmps73 rfl ?_
      repeat' (first | exact rfl | (apply kO; (first | exact ov_pure rfl | (apply kOBin; (first | exact aBin)) | (apply kOCall; (first | (apply kCallF; (first | exact (ov_call rfl (fun w hw => c_srectOk _ w)))) | (apply kCallB; (first | exact aBlt | exact aLenR)))) | (apply kOLoad; (first | exact aLdF | exact aLdR)) | exact ov_fieldAddr rfl | (apply kOIdx; (first | exact aIdx)) | exact aRest | exact aNew | exact (ov_field1 (ft := 31) rfl rfl rfl rfl))) | (refine kN ?_; (first | (refine kStore ?_; (first | refine s_store1 _ rfl rfl gpA rfl (by rfl) ?_ | refine s_storeS _ rfl rfl gpA rfl rfl (by rfl) ?_ | refine s_storeS _ rfl rfl gpA rfl (ones_img oiA) (by rfl) ?_)) | refine s_boxS rfl rfl (fun b hb => ?_) | refine s_allocS rfl (fun b hb => ?_) | refine s_box1 rfl rfl rfl (fun b hb => ?_) | refine s_alloc1 rfl rfl (fun b hb => ?_) | refine s_buildSlice0 rfl (fun b hb => ?_) | refine s_buildSlice rfl rfl rfl rfl rfl (fun b hb => ?_) | apply s_step)) | (refine kG ?_; (first | refine s_gyes rfl rfl rfl ?_ | refine s_gno rfl rfl rfl rfl rfl ?_ | ((first | refine s_split_d rfl rfl (fun h => ?_) (fun h => ?_) | refine s_split_n rfl rfl (fun h => ?_) (fun h => ?_)) <;> (try (first | contradiction | (exfalso; omega)))) | refine s_split_nb rfl rfl (fun h => ?_) (fun h => ?_) | refine s_split rfl rfl (fun h => ?_) (fun h => ?_))) | refine l_then ?_ | (refine kC ?_; (first | refine c_seq ?_ | refine c_regionN rfl ?_ | refine c_ret ?_ | (refine kCond ?_; (first | refine c_cond_t rfl ?_ | refine c_cond_f rfl ?_ | ((first | refine c_cond_d rfl (fun h => ?_) (fun h => ?_) | refine c_cond_n rfl (fun h => ?_) (fun h => ?_)) <;> (try (first | contradiction | (exfalso; omega)))) | refine c_cond_nb rfl (fun h => ?_) (fun h => ?_) | refine c_cond rfl (fun h => ?_) (fun h => ?_))) | refine c_block ?_ | refine c_skip ?_ | refine c_exit ?_ | refine c_regionQN rfl rfl (by decide +kernel) ?_)) | apply s_stepQ | (refine kQG ?_; (first | refine s_gyesQ rfl rfl rfl ?_ | refine s_gnoQ rfl rfl rfl rfl rfl ?_ | ((first | refine s_splitQ_d rfl rfl (fun h => ?_) (fun h => ?_) | refine s_splitQ_n rfl rfl (fun h => ?_) (fun h => ?_)) <;> (try (first | contradiction | (exfalso; omega)))) | refine s_splitQ_nb rfl rfl (fun h => ?_) (fun h => ?_) | refine s_splitQ rfl rfl (fun h => ?_) (fun h => ?_))) | refine lQ_then ?_ | refine lQ_ends ?_ | (refine kE ?_; (first | refine e_then_r ?_ | refine e_block_r ?_ | refine e_then_n ?_ | refine e_then_x ?_ | refine e_block_n ?_ | refine e_block_x ?_ | refine e_block_y rfl ?_)) | refine l_ends ?_)
      all_goals (refine kE ?_; refine s_leaveSF rfl rfl rfl fwA (fun w hw => ?_))
      all_goals refine ⟨ret_rectv ?_, hw.below⟩
      all_goals (unfold DRect.inter; rw [if_neg (fun h => hq h.2)]; rfl)
  · (first | apply SYields.mk | apply SYieldsF.mk | skip); refine s_enter Tryz.func73 rfl Tryz.ntmps73 rfl ?_
    repeat' (first | exact rfl | (apply kO; (first | exact ov_pure rfl | (apply kOBin; (first | exact aBin)) | (apply kOCall; (first | (apply kCallF; (first | exact (ov_call rfl (fun w hw => c_srectOk _ w)))) | (apply kCallB; (first | exact aBlt | exact aLenR)))) | (apply kOLoad; (first | exact aLdF | exact aLdR)) | exact ov_fieldAddr rfl | (apply kOIdx; (first | exact aIdx)) | exact aRest | exact aNew | exact (ov_field1 (ft := 31) rfl rfl rfl rfl))) | (refine kN ?_; (first | (refine kStore ?_; (first | refine s_store1 _ rfl rfl gpA rfl (by rfl) ?_ | refine s_storeS _ rfl rfl gpA rfl rfl (by rfl) ?_ | refine s_storeS _ rfl rfl gpA rfl (ones_img oiA) (by rfl) ?_)) | refine s_boxS rfl rfl (fun b hb => ?_) | refine s_allocS rfl (fun b hb => ?_) | refine s_box1 rfl rfl rfl (fun b hb => ?_) | refine s_alloc1 rfl rfl (fun b hb => ?_) | refine s_buildSlice0 rfl (fun b hb => ?_) | refine s_buildSlice rfl rfl rfl rfl rfl (fun b hb => ?_) | apply s_step)) | (refine kG ?_; (first | refine s_gyes rfl rfl rfl ?_ | refine s_gno rfl rfl rfl rfl rfl ?_ | ((first | refine s_split_d rfl rfl (fun h => ?_) (fun h => ?_) | refine s_split_n rfl rfl (fun h => ?_) (fun h => ?_)) <;> (try (first | contradiction | (exfalso; omega)))) | refine s_split_nb rfl rfl (fun h => ?_) (fun h => ?_) | refine s_split rfl rfl (fun h => ?_) (fun h => ?_))) | refine l_then ?_ | (refine kC ?_; (first | refine c_seq ?_ | refine c_regionN rfl ?_ | refine c_ret ?_ | (refine kCond ?_; (first | refine c_cond_t rfl ?_ | refine c_cond_f rfl ?_ | ((first | refine c_cond_d rfl (fun h => ?_) (fun h => ?_) | refine c_cond_n rfl (fun h => ?_) (fun h => ?_)) <;> (try (first | contradiction | (exfalso; omega)))) | refine c_cond_nb rfl (fun h => ?_) (fun h => ?_) | refine c_cond rfl (fun h => ?_) (fun h => ?_))) | refine c_block ?_ | refine c_skip ?_ | refine c_exit ?_ | refine c_regionQN rfl rfl (by decide +kernel) ?_)) | apply s_stepQ | (refine kQG ?_; (first | refine s_gyesQ rfl rfl rfl ?_ | refine s_gnoQ rfl rfl rfl rfl rfl ?_ | ((first | refine s_splitQ_d rfl rfl (fun h => ?_) (fun h => ?_) | refine s_splitQ_n rfl rfl (fun h => ?_) (fun h => ?_)) <;> (try (first | contradiction | (exfalso; omega)))) | refine s_splitQ_nb rfl rfl (fun h => ?_) (fun h => ?_) | refine s_splitQ rfl rfl (fun h => ?_) (fun h => ?_))) | refine lQ_then ?_ | refine lQ_ends ?_ | (refine kE ?_; (first | refine e_then_r ?_ | refine e_block_r ?_ | refine e_then_n ?_ | refine e_then_x ?_ | refine e_block_n ?_ | refine e_block_x ?_ | refine e_block_y rfl ?_)) | refine l_ends ?_)
    all_goals (refine kE ?_; refine s_leaveSF rfl rfl rfl fwA (fun w hw => ?_))
    all_goals refine ⟨ret_rectv ?_, hw.below⟩
    all_goals (unfold DRect.inter; rw [if_neg (fun h => hp h.1)]; rfl)
theorem c_iorientSize (w h o : Int) (W : World) : SYields Tryz.prog 106 #[.int .i64 w, .int .i64 h, .int .i64 o] (.tuple #[.int .i64 (orientSize w h o).1, .int .i64 (orientSize w h o).2]) W := by
  (first | apply SYields.mk | apply SYieldsF.mk | skip); refine s_enter Tryz.func106 rfl Tryz.ntmps106 rfl ?_
  repeat' (first | exact rfl | (apply kO; (first | exact ov_pure rfl | (apply kOBin; (first | exact aBin)) | (apply kOCall; (first | (apply kCallF; (first | exact (ov_call rfl (fun w hw => c_isSide _ w)) | exact (ov_call rfl (fun w hw => c_isOrient _ w)))) | (apply kCallB; (first | exact aBlt | exact aLenR)))) | (apply kOLoad; (first | exact aLdF | exact aLdR)) | exact ov_fieldAddr rfl | (apply kOIdx; (first | exact aIdx)) | exact aRest | exact aNew | exact (ov_field1 (ft := 31) rfl rfl rfl rfl))) | (refine kN ?_; (first | (refine kStore ?_; (first | refine s_store1 _ rfl rfl gpA rfl (by rfl) ?_ | refine s_storeS _ rfl rfl gpA rfl rfl (by rfl) ?_ | refine s_storeS _ rfl rfl gpA rfl (ones_img oiA) (by rfl) ?_)) | refine s_boxS rfl rfl (fun b hb => ?_) | refine s_allocS rfl (fun b hb => ?_) | refine s_box1 rfl rfl rfl (fun b hb => ?_) | refine s_alloc1 rfl rfl (fun b hb => ?_) | refine s_buildSlice0 rfl (fun b hb => ?_) | refine s_buildSlice rfl rfl rfl rfl rfl (fun b hb => ?_) | apply s_step)) | (refine kG ?_; (first | refine s_gyes rfl rfl rfl ?_ | refine s_gno rfl rfl rfl rfl rfl ?_ | ((first | refine s_split_d rfl rfl (fun h => ?_) (fun h => ?_) | refine s_split_n rfl rfl (fun h => ?_) (fun h => ?_)) <;> (try (first | contradiction | (exfalso; omega)))) | refine s_split_nb rfl rfl (fun h => ?_) (fun h => ?_) | refine s_split rfl rfl (fun h => ?_) (fun h => ?_))) | refine l_then ?_ | (refine kC ?_; (first | refine c_seq ?_ | refine c_regionN rfl ?_ | refine c_ret ?_ | (refine kCond ?_; (first | refine c_cond_t rfl ?_ | refine c_cond_f rfl ?_ | ((first | refine c_cond_d rfl (fun h => ?_) (fun h => ?_) | refine c_cond_n rfl (fun h => ?_) (fun h => ?_)) <;> (try (first | contradiction | (exfalso; omega)))) | refine c_cond_nb rfl (fun h => ?_) (fun h => ?_) | refine c_cond rfl (fun h => ?_) (fun h => ?_))) | refine c_block ?_ | refine c_skip ?_ | refine c_exit ?_ | refine c_regionQN rfl rfl (by decide +kernel) ?_)) | apply s_stepQ | (refine kQG ?_; (first | refine s_gyesQ rfl rfl rfl ?_ | refine s_gnoQ rfl rfl rfl rfl rfl ?_ | ((first | refine s_splitQ_d rfl rfl (fun h => ?_) (fun h => ?_) | refine s_splitQ_n rfl rfl (fun h => ?_) (fun h => ?_)) <;> (try (first | contradiction | (exfalso; omega)))) | refine s_splitQ_nb rfl rfl (fun h => ?_) (fun h => ?_) | refine s_splitQ rfl rfl (fun h => ?_) (fun h => ?_))) | refine lQ_then ?_ | refine lQ_ends ?_ | (refine kE ?_; (first | refine e_then_r ?_ | refine e_block_r ?_ | refine e_then_n ?_ | refine e_then_x ?_ | refine e_block_n ?_ | refine e_block_x ?_ | refine e_block_y rfl ?_)) | refine l_ends ?_)
  all_goals refine s_leave2 rfl rfl rfl (fun w hw => ⟨?_, hw.below⟩)
  all_goals (unfold orientSize; first | (rw [if_neg (by unfold orientOk; omega)]; done) | (rw [if_pos (by unfold orientOk; omega)]; first | (rw [if_pos (by omega)]; done) | rw [if_neg (by omega)]))
theorem c_sorientSize (w h o : Int) (W : World) : SYields Tryz.prog 98 #[.int .i64 w, .int .i64 h, .int .i64 o] (.tuple #[.int .i64 (orientSize w h o).1, .int .i64 (orientSize w h o).2]) W := by
  (first | apply SYields.mk | apply SYieldsF.mk | skip); refine s_enter Tryz.func98 rfl Tryz.ntmps98 rfl ?_
  repeat' (first | exact rfl | (apply kO; (first | exact ov_pure rfl | (apply kOBin; (first | exact aBin)) | (apply kOCall; (first | (apply kCallF; (first | exact (ov_call rfl (fun w hw => c_l01In _ _ _ w)))) | (apply kCallB; (first | exact aBlt | exact aLenR)))) | (apply kOLoad; (first | exact aLdF | exact aLdR)) | exact ov_fieldAddr rfl | (apply kOIdx; (first | exact aIdx)) | exact aRest | exact aNew | exact (ov_field1 (ft := 31) rfl rfl rfl rfl))) | (refine kN ?_; (first | (refine kStore ?_; (first | refine s_store1 _ rfl rfl gpA rfl (by rfl) ?_ | refine s_storeS _ rfl rfl gpA rfl rfl (by rfl) ?_ | refine s_storeS _ rfl rfl gpA rfl (ones_img oiA) (by rfl) ?_)) | refine s_boxS rfl rfl (fun b hb => ?_) | refine s_allocS rfl (fun b hb => ?_) | refine s_box1 rfl rfl rfl (fun b hb => ?_) | refine s_alloc1 rfl rfl (fun b hb => ?_) | refine s_buildSlice0 rfl (fun b hb => ?_) | refine s_buildSlice rfl rfl rfl rfl rfl (fun b hb => ?_) | apply s_step)) | (refine kG ?_; (first | refine s_gyes rfl rfl rfl ?_ | refine s_gno rfl rfl rfl rfl rfl ?_ | ((first | refine s_split_d rfl rfl (fun h => ?_) (fun h => ?_) | refine s_split_n rfl rfl (fun h => ?_) (fun h => ?_)) <;> (try (first | contradiction | (exfalso; omega)))) | refine s_split_nb rfl rfl (fun h => ?_) (fun h => ?_) | refine s_split rfl rfl (fun h => ?_) (fun h => ?_))) | refine l_then ?_ | (refine kC ?_; (first | refine c_seq ?_ | refine c_regionN rfl ?_ | refine c_ret ?_ | (refine kCond ?_; (first | refine c_cond_t rfl ?_ | refine c_cond_f rfl ?_ | ((first | refine c_cond_d rfl (fun h => ?_) (fun h => ?_) | refine c_cond_n rfl (fun h => ?_) (fun h => ?_)) <;> (try (first | contradiction | (exfalso; omega)))) | refine c_cond_nb rfl (fun h => ?_) (fun h => ?_) | refine c_cond rfl (fun h => ?_) (fun h => ?_))) | refine c_block ?_ | refine c_skip ?_ | refine c_exit ?_ | refine c_regionQN rfl rfl (by decide +kernel) ?_)) | apply s_stepQ | (refine kQG ?_; (first | refine s_gyesQ rfl rfl rfl ?_ | refine s_gnoQ rfl rfl rfl rfl rfl ?_ | ((first | refine s_splitQ_d rfl rfl (fun h => ?_) (fun h => ?_) | refine s_splitQ_n rfl rfl (fun h => ?_) (fun h => ?_)) <;> (try (first | contradiction | (exfalso; omega)))) | refine s_splitQ_nb rfl rfl (fun h => ?_) (fun h => ?_) | refine s_splitQ rfl rfl (fun h => ?_) (fun h => ?_))) | refine lQ_then ?_ | refine lQ_ends ?_ | (refine kE ?_; (first | refine e_then_r ?_ | refine e_block_r ?_ | refine e_then_n ?_ | refine e_then_x ?_ | refine e_block_n ?_ | refine e_block_x ?_ | refine e_block_y rfl ?_)) | refine l_ends ?_)
  all_goals refine s_leave2 rfl rfl rfl (fun w hw => ⟨?_, hw.below⟩)
  all_goals (unfold orientSize; first | (rw [if_neg (by unfold orientOk; omega)]; done) | (rw [if_pos (by unfold orientOk; omega)]; first | (rw [if_pos (by omega)]; done) | rw [if_neg (by omega)]))
theorem c_surfaceSize (s : DSurf) (d : Value) (w : World) : SYields Tryz.prog 88 #[vSurf s d] (.tuple #[.int .i64 (surfSize s).1, .int .i64 (surfSize s).2]) w := by
  (first | apply SYields.mk | apply SYieldsF.mk | skip); refine s_enter Tryz.func88 rfl Tryz.ntmps88 rfl ?_
  repeat' (first | exact rfl | (apply kO; (first | exact ov_pure rfl | (apply kOBin; (first | exact aBin)) | (apply kOCall; (first | (apply kCallF; (first | exact (ov_call rfl (fun w hw => c_iorientSize _ _ _ w)))) | (apply kCallB; (first | exact aBlt | exact aLenR)))) | (apply kOLoad; (first | exact aLdF | exact aLdR)) | exact ov_fieldAddr rfl | (apply kOIdx; (first | exact aIdx)) | exact aRest | exact aNew | exact (ov_field1 (ft := 31) rfl rfl rfl rfl))) | (refine kN ?_; (first | (refine kStore ?_; (first | refine s_store1 _ rfl rfl gpA rfl (by rfl) ?_ | refine s_storeS _ rfl rfl gpA rfl rfl (by rfl) ?_ | refine s_storeS _ rfl rfl gpA rfl (ones_img oiA) (by rfl) ?_)) | refine s_boxS rfl rfl (fun b hb => ?_) | refine s_allocS rfl (fun b hb => ?_) | refine s_box1 rfl rfl rfl (fun b hb => ?_) | refine s_alloc1 rfl rfl (fun b hb => ?_) | refine s_buildSlice0 rfl (fun b hb => ?_) | refine s_buildSlice rfl rfl rfl rfl rfl (fun b hb => ?_) | apply s_step)) | (refine kG ?_; (first | refine s_gyes rfl rfl rfl ?_ | refine s_gno rfl rfl rfl rfl rfl ?_ | ((first | refine s_split_d rfl rfl (fun h => ?_) (fun h => ?_) | refine s_split_n rfl rfl (fun h => ?_) (fun h => ?_)) <;> (try (first | contradiction | (exfalso; omega)))) | refine s_split_nb rfl rfl (fun h => ?_) (fun h => ?_) | refine s_split rfl rfl (fun h => ?_) (fun h => ?_))) | refine l_then ?_ | (refine kC ?_; (first | refine c_seq ?_ | refine c_regionN rfl ?_ | refine c_ret ?_ | (refine kCond ?_; (first | refine c_cond_t rfl ?_ | refine c_cond_f rfl ?_ | ((first | refine c_cond_d rfl (fun h => ?_) (fun h => ?_) | refine c_cond_n rfl (fun h => ?_) (fun h => ?_)) <;> (try (first | contradiction | (exfalso; omega)))) | refine c_cond_nb rfl (fun h => ?_) (fun h => ?_) | refine c_cond rfl (fun h => ?_) (fun h => ?_))) | refine c_block ?_ | refine c_skip ?_ | refine c_exit ?_ | refine c_regionQN rfl rfl (by decide +kernel) ?_)) | apply s_stepQ | (refine kQG ?_; (first | refine s_gyesQ rfl rfl rfl ?_ | refine s_gnoQ rfl rfl rfl rfl rfl ?_ | ((first | refine s_splitQ_d rfl rfl (fun h => ?_) (fun h => ?_) | refine s_splitQ_n rfl rfl (fun h => ?_) (fun h => ?_)) <;> (try (first | contradiction | (exfalso; omega)))) | refine s_splitQ_nb rfl rfl (fun h => ?_) (fun h => ?_) | refine s_splitQ rfl rfl (fun h => ?_) (fun h => ?_))) | refine lQ_then ?_ | refine lQ_ends ?_ | (refine kE ?_; (first | refine e_then_r ?_ | refine e_block_r ?_ | refine e_then_n ?_ | refine e_then_x ?_ | refine e_block_n ?_ | refine e_block_x ?_ | refine e_block_y rfl ?_)) | refine l_ends ?_)
  all_goals refine s_leave2 rfl rfl rfl (fun w hw => ⟨?_, hw.below⟩)
  all_goals (unfold surfSize; first | (rw [if_pos (by assumption)]; done) | rw [if_neg (by assumption)])
theorem c_isurfaceRect (s : DSurf) (d : Value) (w : World) (hd : RInts w d s.buf.data) : SYields Tryz.prog 57 #[vSurf s d] (vRect (surfRect s)) w := by
  (first | apply SYields.mk | apply SYieldsF.mk | skip); refine s_enter Tryz.func57 rfl Tryz.ntmps57 rfl ?_
  repeat' (first | exact rfl | (apply kO; (first | exact ov_pure rfl | (apply kOBin; (first | exact aBin)) | (apply kOCall; (first | (apply kCallF; (first | exact (ov_call rfl (fun w hw => c_isurfaceOk s _ w (riA hw))) | exact (ov_call rfl (fun w hw => c_surfaceSize s _ w)))) | (apply kCallB; (first | exact aBlt | exact aLenR)))) | (apply kOLoad; (first | exact aLdF | exact aLdR)) | exact ov_fieldAddr rfl | (apply kOIdx; (first | exact aIdx)) | exact aRest | exact aNew | exact (ov_field1 (ft := 31) rfl rfl rfl rfl))) | (refine kN ?_; (first | (refine kStore ?_; (first | refine s_store1 _ rfl rfl gpA rfl (by rfl) ?_ | refine s_storeS _ rfl rfl gpA rfl rfl (by rfl) ?_ | refine s_storeS _ rfl rfl gpA rfl (ones_img oiA) (by rfl) ?_)) | refine s_boxS rfl rfl (fun b hb => ?_) | refine s_allocS rfl (fun b hb => ?_) | refine s_box1 rfl rfl rfl (fun b hb => ?_) | refine s_alloc1 rfl rfl (fun b hb => ?_) | refine s_buildSlice0 rfl (fun b hb => ?_) | refine s_buildSlice rfl rfl rfl rfl rfl (fun b hb => ?_) | apply s_step)) | (refine kG ?_; (first | refine s_gyes rfl rfl rfl ?_ | refine s_gno rfl rfl rfl rfl rfl ?_ | ((first | refine s_split_d rfl rfl (fun h => ?_) (fun h => ?_) | refine s_split_n rfl rfl (fun h => ?_) (fun h => ?_)) <;> (try (first | contradiction | (exfalso; omega)))) | refine s_split_nb rfl rfl (fun h => ?_) (fun h => ?_) | refine s_split rfl rfl (fun h => ?_) (fun h => ?_))) | refine l_then ?_ | (refine kC ?_; (first | refine c_seq ?_ | refine c_regionN rfl ?_ | refine c_ret ?_ | (refine kCond ?_; (first | refine c_cond_t rfl ?_ | refine c_cond_f rfl ?_ | ((first | refine c_cond_d rfl (fun h => ?_) (fun h => ?_) | refine c_cond_n rfl (fun h => ?_) (fun h => ?_)) <;> (try (first | contradiction | (exfalso; omega)))) | refine c_cond_nb rfl (fun h => ?_) (fun h => ?_) | refine c_cond rfl (fun h => ?_) (fun h => ?_))) | refine c_block ?_ | refine c_skip ?_ | refine c_exit ?_ | refine c_regionQN rfl rfl (by decide +kernel) ?_)) | apply s_stepQ | (refine kQG ?_; (first | refine s_gyesQ rfl rfl rfl ?_ | refine s_gnoQ rfl rfl rfl rfl rfl ?_ | ((first | refine s_splitQ_d rfl rfl (fun h => ?_) (fun h => ?_) | refine s_splitQ_n rfl rfl (fun h => ?_) (fun h => ?_)) <;> (try (first | contradiction | (exfalso; omega)))) | refine s_splitQ_nb rfl rfl (fun h => ?_) (fun h => ?_) | refine s_splitQ rfl rfl (fun h => ?_) (fun h => ?_))) | refine lQ_then ?_ | refine lQ_ends ?_ | (refine kE ?_; (first | refine e_then_r ?_ | refine e_block_r ?_ | refine e_then_n ?_ | refine e_then_x ?_ | refine e_block_n ?_ | refine e_block_x ?_ | refine e_block_y rfl ?_)) | refine l_ends ?_)
  all_goals (refine kE ?_; refine s_leaveSF rfl rfl rfl fwA (fun w hw => ?_))
  all_goals refine ⟨ret_rectv ?_, hw.below⟩
  all_goals (unfold surfRect; first | (rw [if_pos ⟨by assumption, by assumption⟩]; done) | (rw [if_neg (by intro hh; obtain ⟨h1, h2⟩ := hh; first | contradiction | simp_all)]; rfl))
theorem c_ssurfaceRect (s : DSurf) (d : Value) (w : World) (hd : RInts w d s.buf.data) : SYields Tryz.prog 71 #[vSurf s d] (vRect (surfRect s)) w := by
  by_cases hok : s.ok
  · have hsz := hok.2.2.2.1
    unfold DSurf.sized at hsz
    (first | apply SYields.mk | apply SYieldsF.mk | skip); refine s_enter Tryz.func71 rfl Tryz.ntmps71 rfl ?_
    repeat' (first | exact rfl | (apply kO; (first | exact ov_pure rfl | (apply kOBin; (first | exact aBin)) | (apply kOCall; (first | (apply kCallF; (first | exact (ov_call rfl (fun w hw => c_ssurfaceOk s _ w (riA hw))) | exact (ov_call rfl (fun w hw => c_sorientSize _ _ _ w)))) | (apply kCallB; (first | exact aBlt | exact aLenR)))) | (apply kOLoad; (first | exact aLdF | exact aLdR)) | exact ov_fieldAddr rfl | (apply kOIdx; (first | exact aIdx)) | exact aRest | exact aNew | exact (ov_field1 (ft := 31) rfl rfl rfl rfl))) | (refine kN ?_; (first | (refine kStore ?_; (first | refine s_store1 _ rfl rfl gpA rfl (by rfl) ?_ | refine s_storeS _ rfl rfl gpA rfl rfl (by rfl) ?_ | refine s_storeS _ rfl rfl gpA rfl (ones_img oiA) (by rfl) ?_)) | refine s_boxS rfl rfl (fun b hb => ?_) | refine s_allocS rfl (fun b hb => ?_) | refine s_box1 rfl rfl rfl (fun b hb => ?_) | refine s_alloc1 rfl rfl (fun b hb => ?_) | refine s_buildSlice0 rfl (fun b hb => ?_) | refine s_buildSlice rfl rfl rfl rfl rfl (fun b hb => ?_) | apply s_step)) | (refine kG ?_; (first | refine s_gyes rfl rfl rfl ?_ | refine s_gno rfl rfl rfl rfl rfl ?_ | ((first | refine s_split_d rfl rfl (fun h => ?_) (fun h => ?_) | refine s_split_n rfl rfl (fun h => ?_) (fun h => ?_)) <;> (try (first | contradiction | (exfalso; omega)))) | refine s_split_nb rfl rfl (fun h => ?_) (fun h => ?_) | refine s_split rfl rfl (fun h => ?_) (fun h => ?_))) | refine l_then ?_ | (refine kC ?_; (first | refine c_seq ?_ | refine c_regionN rfl ?_ | refine c_ret ?_ | (refine kCond ?_; (first | refine c_cond_t rfl ?_ | refine c_cond_f rfl ?_ | ((first | refine c_cond_d rfl (fun h => ?_) (fun h => ?_) | refine c_cond_n rfl (fun h => ?_) (fun h => ?_)) <;> (try (first | contradiction | (exfalso; omega)))) | refine c_cond_nb rfl (fun h => ?_) (fun h => ?_) | refine c_cond rfl (fun h => ?_) (fun h => ?_))) | refine c_block ?_ | refine c_skip ?_ | refine c_exit ?_ | refine c_regionQN rfl rfl (by decide +kernel) ?_)) | apply s_stepQ | (refine kQG ?_; (first | refine s_gyesQ rfl rfl rfl ?_ | refine s_gnoQ rfl rfl rfl rfl rfl ?_ | ((first | refine s_splitQ_d rfl rfl (fun h => ?_) (fun h => ?_) | refine s_splitQ_n rfl rfl (fun h => ?_) (fun h => ?_)) <;> (try (first | contradiction | (exfalso; omega)))) | refine s_splitQ_nb rfl rfl (fun h => ?_) (fun h => ?_) | refine s_splitQ rfl rfl (fun h => ?_) (fun h => ?_))) | refine lQ_then ?_ | refine lQ_ends ?_ | (refine kE ?_; (first | refine e_then_r ?_ | refine e_block_r ?_ | refine e_then_n ?_ | refine e_then_x ?_ | refine e_block_n ?_ | refine e_block_x ?_ | refine e_block_y rfl ?_)) | refine l_ends ?_)
    all_goals (refine kE ?_; refine s_leaveSF rfl rfl rfl fwA (fun w hw => ?_))
    all_goals refine ⟨ret_rectv ?_, hw.below⟩
    all_goals (unfold surfRect; first | (rw [if_pos ⟨hok, by assumption⟩]; unfold surfSize; first | (rw [if_pos (by omega)]; done) | (rw [if_neg (by omega)]; done)) | (rw [if_neg (by intro hh; obtain ⟨h1, h2⟩ := hh; simp_all)]; rfl))
  · (first | apply SYields.mk | apply SYieldsF.mk | skip); refine s_enter Tryz.func71 rfl Tryz.ntmps71 rfl ?_
    repeat' (first | exact rfl | (apply kO; (first | exact ov_pure rfl | (apply kOBin; (first | exact aBin)) | (apply kOCall; (first | (apply kCallF; (first | exact (ov_call rfl (fun w hw => c_ssurfaceOk s _ w (riA hw))))) | (apply kCallB; (first | exact aBlt | exact aLenR)))) | (apply kOLoad; (first | exact aLdF | exact aLdR)) | exact ov_fieldAddr rfl | (apply kOIdx; (first | exact aIdx)) | exact aRest | exact aNew | exact (ov_field1 (ft := 31) rfl rfl rfl rfl))) | (refine kN ?_; (first | (refine kStore ?_; (first | refine s_store1 _ rfl rfl gpA rfl (by rfl) ?_ | refine s_storeS _ rfl rfl gpA rfl rfl (by rfl) ?_ | refine s_storeS _ rfl rfl gpA rfl (ones_img oiA) (by rfl) ?_)) | refine s_boxS rfl rfl (fun b hb => ?_) | refine s_allocS rfl (fun b hb => ?_) | refine s_box1 rfl rfl rfl (fun b hb => ?_) | refine s_alloc1 rfl rfl (fun b hb => ?_) | refine s_buildSlice0 rfl (fun b hb => ?_) | refine s_buildSlice rfl rfl rfl rfl rfl (fun b hb => ?_) | apply s_step)) | (refine kG ?_; (first | refine s_gyes rfl rfl rfl ?_ | refine s_gno rfl rfl rfl rfl rfl ?_ | ((first | refine s_split_d rfl rfl (fun h => ?_) (fun h => ?_) | refine s_split_n rfl rfl (fun h => ?_) (fun h => ?_)) <;> (try (first | contradiction | (exfalso; omega)))) | refine s_split_nb rfl rfl (fun h => ?_) (fun h => ?_) | refine s_split rfl rfl (fun h => ?_) (fun h => ?_))) | refine l_then ?_ | (refine kC ?_; (first | refine c_seq ?_ | refine c_regionN rfl ?_ | refine c_ret ?_ | (refine kCond ?_; (first | refine c_cond_t rfl ?_ | refine c_cond_f rfl ?_ | ((first | refine c_cond_d rfl (fun h => ?_) (fun h => ?_) | refine c_cond_n rfl (fun h => ?_) (fun h => ?_)) <;> (try (first | contradiction | (exfalso; omega)))) | refine c_cond_nb rfl (fun h => ?_) (fun h => ?_) | refine c_cond rfl (fun h => ?_) (fun h => ?_))) | refine c_block ?_ | refine c_skip ?_ | refine c_exit ?_ | refine c_regionQN rfl rfl (by decide +kernel) ?_)) | apply s_stepQ | (refine kQG ?_; (first | refine s_gyesQ rfl rfl rfl ?_ | refine s_gnoQ rfl rfl rfl rfl rfl ?_ | ((first | refine s_splitQ_d rfl rfl (fun h => ?_) (fun h => ?_) | refine s_splitQ_n rfl rfl (fun h => ?_) (fun h => ?_)) <;> (try (first | contradiction | (exfalso; omega)))) | refine s_splitQ_nb rfl rfl (fun h => ?_) (fun h => ?_) | refine s_splitQ rfl rfl (fun h => ?_) (fun h => ?_))) | refine lQ_then ?_ | refine lQ_ends ?_ | (refine kE ?_; (first | refine e_then_r ?_ | refine e_block_r ?_ | refine e_then_n ?_ | refine e_then_x ?_ | refine e_block_n ?_ | refine e_block_x ?_ | refine e_block_y rfl ?_)) | refine l_ends ?_)
    all_goals (refine kE ?_; refine s_leaveSF rfl rfl rfl fwA (fun w hw => ?_))
    all_goals refine ⟨ret_rectv ?_, hw.below⟩
    all_goals (unfold surfRect; rw [if_neg (fun hh => hok hh.1)]; rfl)
end Go.Proofs.YtpcammhmgleonaaGreat
namespace Sx

abbrev Grid := Nat → Nat → Bool
def Grid.eqv (g h : Grid) : Prop := ∀ y x, y < 16 → x < 16 → g y x = h y x
def rnlF (f : Nat → Bool) : Nat → Nat → Nat
  | 0, _ => 0
  | k + 1, x => if x < 16 ∧ f x = true then rnlF f k (x + 1) + 1 else 0
def rnl (f : Nat → Bool) (x : Nat) : Nat := rnlF f (16 - x) x
theorem rnlF_is (f : Nat → Bool) : ∀ (k x : Nat), 16 - x ≤ k → (∀ i, x ≤ i → i < x + rnlF f k x → i < 16 ∧ f i = true) ∧ ¬ (x + rnlF f k x < 16 ∧ f (x + rnlF f k x) = true)
  | 0, x, hk => ⟨fun i h1 h2 => by simp only [rnlF] at h2; omega, fun h => by simp only [rnlF] at h; omega⟩
  | k + 1, x, hk => by
    unfold rnlF
    by_cases h : x < 16 ∧ f x = true
    · rw [if_pos h]
      have ih := rnlF_is f k (x + 1) (by omega)
      refine ⟨fun i h1 h2 => ?_, fun h2 => ih.2 ?_⟩
      · by_cases e : i = x
        · subst e; exact h
        · exact ih.1 i (by omega) (by omega)
      · rw [show x + 1 + rnlF f k (x + 1) = x + (rnlF f k (x + 1) + 1) by omega]; exact h2
    · rw [if_neg h]
      exact ⟨fun i h1 h2 => by omega, h⟩
theorem rnl_in {f : Nat → Bool} {x i : Nat} (h1 : x ≤ i) (h2 : i < x + rnl f x) : i < 16 ∧ f i = true := (rnlF_is f _ x (Nat.le_refl _)).1 i h1 h2
theorem rnl_end {f : Nat → Bool} {x : Nat} : ¬ (x + rnl f x < 16 ∧ f (x + rnl f x) = true) := (rnlF_is f _ x (Nat.le_refl _)).2
theorem rnl_eq {f : Nat → Bool} {x w : Nat} (h1 : ∀ i, x ≤ i → i < x + w → i < 16 ∧ f i = true) (h2 : ¬ (x + w < 16 ∧ f (x + w) = true)) : rnl f x = w := by
  rcases Nat.lt_trichotomy (rnl f x) w with h | h | h
  · exact absurd (h1 (x + rnl f x) (by omega) (by omega)) rnl_end
  · exact h
  · exact absurd (rnl_in (f := f) (x := x) (i := x + w) (by omega) (by omega)) h2
theorem rnl_le {f : Nat → Bool} {x : Nat} (hx : x ≤ 16) : x + rnl f x ≤ 16 := by
  by_cases h : rnl f x = 0
  · omega
  · have := (rnl_in (f := f) (x := x) (i := x + rnl f x - 1) (by omega) (by omega)).1; omega
theorem rnl_congr {f g : Nat → Bool} {x : Nat} (h : ∀ i, i < 16 → f i = g i) : rnl f x = rnl g x :=
  rnl_eq (fun i h1 h2 => by have := rnl_in h1 h2; exact ⟨this.1, by rw [h i this.1]; exact this.2⟩) (fun hh => rnl_end (f := g) (x := x) ⟨hh.1, by rw [← h _ hh.1]; exact hh.2⟩)
def rowF (f : Nat → Bool) (y h : Int) : Nat → Nat → List DRect
  | 0, _ => []
  | k + 1, x => if x < 16 then (if rnl f x = 0 then [] else [⟨x, y, rnl f x, h⟩]) ++ rowF f y h k (x + rnl f x + 1) else []
def rowR (f : Nat → Bool) (y h : Int) (x : Nat) : List DRect := rowF f y h (16 - x) x
theorem rowF_fuel (f : Nat → Bool) (y h : Int) : ∀ (k j x : Nat), 16 - x ≤ k → 16 - x ≤ j → rowF f y h k x = rowF f y h j x
  | 0, 0, x, _, _ => rfl
  | 0, j + 1, x, hk, _ => by unfold rowF; rw [if_neg (by omega)]
  | k + 1, 0, x, _, hj => by unfold rowF; rw [if_neg (by omega)]
  | k + 1, j + 1, x, hk, hj => by
    unfold rowF
    by_cases hx : x < 16
    · rw [if_pos hx, if_pos hx, rowF_fuel f y h k j _ (by omega) (by omega)]
    · rw [if_neg hx, if_neg hx]
theorem rowR_done {f : Nat → Bool} {y h : Int} {x : Nat} (hx : 16 ≤ x) : rowR f y h x = [] := by
  unfold rowR; rw [show 16 - x = 0 by omega]; rfl
theorem rowR_step {f : Nat → Bool} {y h : Int} {x : Nat} (hx : x < 16) : rowR f y h x = (if rnl f x = 0 then [] else [⟨x, y, rnl f x, h⟩]) ++ rowR f y h (x + rnl f x + 1) := by
  unfold rowR
  rw [show 16 - x = (15 - x) + 1 by omega]
  conv => lhs; unfold rowF
  rw [if_pos hx, rowF_fuel f y h (15 - x) (16 - (x + rnl f x + 1)) _ (by omega) (by omega)]
theorem row_ind {P : Nat → Prop} (h1 : ∀ x, 16 ≤ x → P x) (h2 : ∀ x, x < 16 → (∀ z, x < z → P z) → P x) : ∀ x, P x := by
  have key : ∀ k x, 16 - x ≤ k → P x := by
    intro k
    induction k with
    | zero => intro x h; exact h1 x (by omega)
    | succ k ih =>
      intro x h
      by_cases hx : x < 16
      · exact h2 x hx (fun z hz => ih z (by omega))
      · exact h1 x (by omega)
  exact fun x => key (16 - x) x (Nat.le_refl _)
theorem rowR_congr {f g : Nat → Bool} {y h : Int} (e : ∀ i, i < 16 → f i = g i) : ∀ x, rowR f y h x = rowR g y h x :=
  row_ind (fun x hx => by rw [rowR_done hx, rowR_done hx]) (fun x hx ih => by rw [rowR_step hx, rowR_step hx, rnl_congr (f := f) (g := g) e, ih _ (by omega)])
def sameRow (g : Grid) (y z : Nat) : Bool := (List.range 16).all (fun x => g z x == g y x)
theorem sameRow_iff {g : Grid} {y z : Nat} : sameRow g y z = true ↔ ∀ x, x < 16 → g z x = g y x := by simp [sameRow]
def hgt (g : Grid) (y : Nat) : Nat := 1 + rnl (sameRow g y) (y + 1)
def canonF (g : Grid) : Nat → Nat → List DRect
  | 0, _ => []
  | k + 1, y => if y < 16 then rowR (g y) y (hgt g y) 0 ++ canonF g k (y + hgt g y) else []
def canonR (g : Grid) (y : Nat) : List DRect := canonF g (16 - y) y
def canon (g : Grid) : List DRect := canonR g 0
theorem canonF_fuel (g : Grid) : ∀ (k j y : Nat), 16 - y ≤ k → 16 - y ≤ j → canonF g k y = canonF g j y
  | 0, 0, x, _, _ => rfl
  | 0, j + 1, y, hk, _ => by unfold canonF; rw [if_neg (by omega)]
  | k + 1, 0, y, _, hj => by unfold canonF; rw [if_neg (by omega)]
  | k + 1, j + 1, y, hk, hj => by
    have := (show 1 ≤ hgt g y by unfold hgt; omega)
    unfold canonF
    by_cases hy : y < 16
    · rw [if_pos hy, if_pos hy, canonF_fuel g k j _ (by omega) (by omega)]
    · rw [if_neg hy, if_neg hy]
theorem hgt_pos (g : Grid) (y : Nat) : 1 ≤ hgt g y := by unfold hgt; omega
theorem hgt_le {g : Grid} {y : Nat} (hy : y < 16) : y + hgt g y ≤ 16 := by
  have := rnl_le (f := sameRow g y) (x := y + 1) (by omega); unfold hgt; omega
theorem hgt_in {g : Grid} {y z x : Nat} (h1 : y ≤ z) (h2 : z < y + hgt g y) (hx : x < 16) : g z x = g y x := by
  by_cases e : z = y
  · subst e; rfl
  · exact sameRow_iff.1 (rnl_in (f := sameRow g y) (x := y + 1) (i := z) (by omega) (by unfold hgt at h2; omega)).2 x hx
theorem canonR_done {g : Grid} {y : Nat} (hy : 16 ≤ y) : canonR g y = [] := by unfold canonR; rw [show 16 - y = 0 by omega]; rfl
theorem canonR_step {g : Grid} {y : Nat} (hy : y < 16) : canonR g y = rowR (g y) y (hgt g y) 0 ++ canonR g (y + hgt g y) := by
  have := hgt_pos g y
  unfold canonR
  rw [show 16 - y = (15 - y) + 1 by omega]
  conv => lhs; unfold canonF
  rw [if_pos hy, canonF_fuel g (15 - y) (16 - (y + hgt g y)) _ (by omega) (by omega)]
theorem sameRow_congr {g k : Grid} (e : g.eqv k) {y z : Nat} (hy : y < 16) (hz : z < 16) : sameRow g y z = sameRow k y z := by
  rw [Bool.eq_iff_iff, sameRow_iff, sameRow_iff]
  exact ⟨fun h x hx => by rw [← e z x hz hx, ← e y x hy hx]; exact h x hx, fun h x hx => by rw [e z x hz hx, e y x hy hx]; exact h x hx⟩
theorem hgt_congr {g k : Grid} (e : g.eqv k) {y : Nat} (hy : y < 16) : hgt g y = hgt k y := by
  unfold hgt; rw [rnl_congr (fun i hi => sameRow_congr e hy hi)]
theorem canonR_congr {g k : Grid} (e : g.eqv k) : ∀ y, canonR g y = canonR k y :=
  row_ind (fun y hy => by rw [canonR_done hy, canonR_done hy]) (fun y hy ih => by
    have := hgt_pos g y
    rw [canonR_step hy, canonR_step hy, hgt_congr e hy, rowR_congr (fun i hi => e y i hy hi)]
    rw [hgt_congr e hy] at this
    rw [ih _ (by omega)])
theorem canon_congr {g k : Grid} (e : g.eqv k) : canon g = canon k := canonR_congr e 0

def DRect.holds (r : DRect) (y x : Nat) : Bool := decide (r.has x y)
def points (l : List DRect) : Grid := fun y x => l.any (fun r => r.holds y x)
theorem points_nil (y x : Nat) : points [] y x = false := rfl
theorem points_cons (r : DRect) (l : List DRect) (y x : Nat) : points (r :: l) y x = (r.holds y x || points l y x) := by simp [points]
theorem points_append (k l : List DRect) (y x : Nat) : points (k ++ l) y x = (points k y x || points l y x) := by simp [points]
def DRect.inScreen (r : DRect) : Prop := 0 ≤ r.X ∧ 0 ≤ r.Y ∧ 1 ≤ r.W ∧ 1 ≤ r.H ∧ r.X + r.W ≤ 16 ∧ r.Y + r.H ≤ 16
theorem rowR_in {f : Nat → Bool} {y h : Int} (hy : 0 ≤ y) (hh : 1 ≤ h) (hs : y + h ≤ 16) : ∀ x, ∀ r ∈ rowR f y h x, r.inScreen ∧ r.Y = y ∧ r.H = h ∧ (x : Int) ≤ r.X :=
  row_ind (fun x hx r hr => by rw [rowR_done hx] at hr; cases hr) (fun x hx ih r hr => by
    rw [rowR_step hx, List.mem_append] at hr
    have hle := rnl_le (f := f) (x := x) (by omega)
    rcases hr with hr | hr
    · split at hr
      · cases hr
      · rw [List.mem_singleton] at hr
        subst hr
        unfold DRect.inScreen; dsimp only; omega
    · have := ih _ (by omega) r hr
      exact ⟨this.1, this.2.1, this.2.2.1, by omega⟩)
theorem canonR_in {g : Grid} : ∀ y, ∀ r ∈ canonR g y, r.inScreen ∧ (y : Int) ≤ r.Y :=
  row_ind (fun y hy r hr => by rw [canonR_done hy] at hr; cases hr) (fun y hy ih r hr => by
    have h1 := hgt_pos g y
    have h2 := hgt_le (g := g) hy
    rw [canonR_step hy, List.mem_append] at hr
    rcases hr with hr | hr
    · have := rowR_in (by omega) (by omega) (by omega) 0 r hr
      exact ⟨this.1, by omega⟩
    · have := ih _ (by omega) r hr
      exact ⟨this.1, by omega⟩)
theorem canon_in {g : Grid} {r : DRect} (h : r ∈ canon g) : r.inScreen := (canonR_in 0 r h).1
theorem rowR_points {f : Nat → Bool} {y h : Int} (hy : 0 ≤ y) (hh : 1 ≤ h) (hs : y + h ≤ 16) : ∀ x, ∀ b a : Nat, points (rowR f y h x) b a = decide (x ≤ a ∧ a < 16 ∧ f a = true ∧ y ≤ b ∧ (b : Int) < y + h) :=
  row_ind (fun x hx b a => by rw [rowR_done hx, points_nil]; exact (decide_eq_false (by omega)).symm) (fun x hx ih b a => by
    have hle := rnl_le (f := f) (x := x) (by omega)
    have hend := rnl_end (f := f) (x := x)
    have hin := fun i => rnl_in (f := f) (x := x) (i := i)
    rw [rowR_step hx, points_append, ih _ (by omega)]
    have e1 : points (if rnl f x = 0 then [] else [⟨x, y, rnl f x, h⟩]) b a = decide (x ≤ a ∧ a < x + rnl f x ∧ y ≤ b ∧ (b : Int) < y + h) := by
      split
      · rw [points_nil]; exact (decide_eq_false (by omega)).symm
      · rw [points_cons, points_nil, Bool.or_false]
        unfold DRect.holds DRect.has DRect.ok
        dsimp only
        exact decide_eq_decide.2 (by omega)
    rw [e1, ← Bool.decide_or]
    refine decide_eq_decide.2 ⟨fun hh => ?_, fun hh => ?_⟩
    · rcases hh with hh | hh
      · have := hin a hh.1 hh.2.1; exact ⟨hh.1, this.1, this.2, hh.2.2.1, hh.2.2.2⟩
      · exact ⟨by omega, hh.2.1, hh.2.2.1, hh.2.2.2.1, hh.2.2.2.2⟩
    · obtain ⟨h1, h2, h3, h4, h5⟩ := hh
      by_cases e : a < x + rnl f x
      · exact .inl ⟨h1, e, h4, h5⟩
      · by_cases e2 : a = x + rnl f x
        · subst e2; exact absurd ⟨h2, h3⟩ hend
        · exact .inr ⟨by omega, h2, h3, h4, h5⟩)
theorem canonR_points {g : Grid} : ∀ y, ∀ b a : Nat, b < 16 → a < 16 → points (canonR g y) b a = (decide (y ≤ b) && g b a) :=
  row_ind (fun y hy b a hb ha => by rw [canonR_done hy, points_nil, decide_eq_false (by omega), Bool.false_and]) (fun y hy ih b a hb ha => by
    have h1 := hgt_pos g y
    have h2 := hgt_le (g := g) hy
    rw [canonR_step hy, points_append, ih _ (by omega) b a hb ha, rowR_points (by omega) (by omega) (by omega)]
    by_cases e1 : y ≤ b
    · by_cases e2 : b < y + hgt g y
      · rw [hgt_in e1 e2 ha]
        rw [decide_eq_false (show ¬ (y + hgt g y ≤ b) by omega), Bool.false_and, Bool.or_false, decide_eq_true e1, Bool.true_and]
        generalize g y a = q
        cases q
        · exact decide_eq_false (by simp)
        · exact decide_eq_true ⟨by omega, ha, rfl, by omega, by omega⟩
      · rw [decide_eq_false (by omega), Bool.false_or, decide_eq_true e1, decide_eq_true (show y + hgt g y ≤ b by omega)]
    · rw [decide_eq_false (by omega), Bool.false_or, decide_eq_false e1, decide_eq_false (show ¬ (y + hgt g y ≤ b) by omega)])
theorem points_canon (g : Grid) : (points (canon g)).eqv g := fun y x hy hx => by
  rw [canon, canonR_points 0 y x hy hx, decide_eq_true (Nat.zero_le _), Bool.true_and]
theorem canon_points (g : Grid) : canon (points (canon g)) = canon g := canon_congr (points_canon g)
def regionOk (l : List DRect) : Prop := canon (points l) = l
instance (l : List DRect) : Decidable (regionOk l) := by unfold regionOk; infer_instance
theorem regionOk_canon (g : Grid) : regionOk (canon g) := canon_points g
theorem regionOk.inScreen {l : List DRect} (h : regionOk l) {r : DRect} (hr : r ∈ l) : r.inScreen := canon_in (g := points l) (by unfold regionOk at h; rwa [h])

theorem rowR_length {f : Nat → Bool} {y h : Int} : ∀ x, (rowR f y h x).length ≤ (17 - x) / 2 :=
  row_ind (fun x hx => by rw [rowR_done hx]; simp) (fun x hx ih => by
    rw [rowR_step hx, List.length_append]
    split
    · have := ih (x + rnl f x + 1) (by omega); simp only [List.length_nil]
      have hz : rnl f x = 0 := by assumption
      rw [hz] at this ⊢; omega
    · have := ih (x + rnl f x + 1) (by omega); simp only [List.length_cons, List.length_nil]; omega)
theorem canonR_length {g : Grid} : ∀ y, (canonR g y).length ≤ 8 * (16 - y) :=
  row_ind (fun y hy => by rw [canonR_done hy]; simp) (fun y hy ih => by
    have h1 := hgt_pos g y
    have h2 := hgt_le (g := g) hy
    have h3 := rowR_length (f := g y) (y := y) (h := hgt g y) 0
    rw [canonR_step hy, List.length_append]
    have := ih (y + hgt g y) (by omega)
    omega)
theorem canon_length (g : Grid) : (canon g).length ≤ 128 := canonR_length 0
theorem regionOk.length {l : List DRect} (h : regionOk l) : l.length ≤ 128 := by have := canon_length (points l); unfold regionOk at h; rwa [h] at this
def area : List DRect → Int
  | [] => 0
  | r :: l => r.W * r.H + area l
theorem area_append : ∀ (k l : List DRect), area (k ++ l) = area k + area l
  | [], l => by simp [area]
  | r :: k, l => by simp [area, area_append k l]; omega
def cnt (f : Nat → Bool) : Nat → Nat
  | 0 => 0
  | n + 1 => cnt f n + (if f n = true then 1 else 0)
theorem cnt_congr {f g : Nat → Bool} : ∀ n, (∀ i, i < n → f i = g i) → cnt f n = cnt g n
  | 0, _ => rfl
  | n + 1, h => by simp only [cnt]; rw [cnt_congr n (fun i hi => h i (by omega)), h n (by omega)]
theorem cnt_le (f : Nat → Bool) : ∀ n, cnt f n ≤ n
  | 0 => Nat.le_refl _
  | n + 1 => by have := cnt_le f n; simp only [cnt]; split <;> omega
theorem cnt_mono {f g : Nat → Bool} : ∀ n, (∀ i, i < n → f i = true → g i = true) → cnt f n ≤ cnt g n
  | 0, _ => Nat.le_refl _
  | n + 1, h => by
    have := cnt_mono n (fun i hi => h i (by omega))
    simp only [cnt]
    have h2 := h n (by omega)
    split
    · rw [if_pos (h2 (by assumption))]; omega
    · omega
def sumN (f : Nat → Nat) : Nat → Nat
  | 0 => 0
  | n + 1 => sumN f n + f n
theorem sumN_congr {f g : Nat → Nat} : ∀ n, (∀ i, i < n → f i = g i) → sumN f n = sumN g n
  | 0, _ => rfl
  | n + 1, h => by simp only [sumN]; rw [sumN_congr n (fun i hi => h i (by omega)), h n (by omega)]
theorem sumN_mono {f g : Nat → Nat} : ∀ n, (∀ i, i < n → f i ≤ g i) → sumN f n ≤ sumN g n
  | 0, _ => Nat.le_refl _
  | n + 1, h => by have := sumN_mono n (fun i hi => h i (by omega)); have := h n (by omega); simp only [sumN]; omega
def card (g : Grid) : Nat := sumN (fun y => cnt (g y) 16) 16
theorem card_mono {g h : Grid} (e : ∀ y x, y < 16 → x < 16 → g y x = true → h y x = true) : card g ≤ card h := sumN_mono 16 (fun y hy => cnt_mono 16 (fun x hx => e y x hy hx))
theorem cnt_run {f : Nat → Bool} {x : Nat} (hx : x ≤ 16) : ∀ w, w ≤ rnl f x → cnt f (x + w) = cnt f x + w
  | 0, _ => rfl
  | w + 1, h => by
    rw [show x + (w + 1) = (x + w) + 1 by omega]
    simp only [cnt]
    rw [cnt_run hx w (by omega), if_pos (rnl_in (f := f) (x := x) (by omega) (by omega)).2]; omega
theorem rowR_area {f : Nat → Bool} {y h : Int} : ∀ x, x ≤ 17 → area (rowR f y h x) = (cnt f 16 - cnt f (min x 16) : Int) * h :=
  row_ind (fun x hx _ => by rw [rowR_done hx, show min x 16 = 16 by omega]; simp [area]) (fun x hx ih hx' => by
    have hle := rnl_le (f := f) (x := x) (by omega)
    have hend := rnl_end (f := f) (x := x)
    have hc := cnt_run (f := f) (x := x) (by omega) (rnl f x) (Nat.le_refl _)
    rw [rowR_step hx, area_append, ih _ (by omega) (by omega)]
    have e1 : area (if rnl f x = 0 then [] else [⟨x, y, rnl f x, h⟩]) = (rnl f x : Int) * h := by
      split
      · rename_i e; rw [e]; simp [area]
      · simp [area]
    have e2 : cnt f (min (x + rnl f x + 1) 16) = cnt f x + rnl f x := by
      by_cases e : x + rnl f x + 1 ≤ 16
      · rw [show min (x + rnl f x + 1) 16 = (x + rnl f x) + 1 by omega]
        simp only [cnt]
        rw [hc, if_neg (fun hh => hend ⟨by omega, hh⟩)]; rfl
      · rw [show min (x + rnl f x + 1) 16 = x + rnl f x by omega, hc]
    rw [e1, e2, show min x 16 = x by omega, ← Int.add_mul]
    congr 1
    push_cast
    omega)
theorem sumN_like {f : Nat → Nat} {y c : Nat} : ∀ w, (∀ z, y ≤ z → z < y + w → f z = c) → sumN f (y + w) = sumN f y + w * c
  | 0, _ => by simp
  | w + 1, h => by
    rw [show y + (w + 1) = (y + w) + 1 by omega]
    simp only [sumN]
    rw [sumN_like w (fun z h1 h2 => h z h1 (by omega)), h (y + w) (by omega) (by omega), Nat.succ_mul]; omega
theorem canonR_area {g : Grid} : ∀ y, y ≤ 16 → area (canonR g y) = (card g : Int) - sumN (fun z => cnt (g z) 16) y :=
  row_ind (fun y hy h => by rw [canonR_done hy, show y = 16 by omega]; simp [area, card]) (fun y hy ih _ => by
    have h1 := hgt_pos g y
    have h2 := hgt_le (g := g) hy
    rw [canonR_step hy, area_append, ih _ (by omega) h2, rowR_area 0 (by omega)]
    rw [sumN_like (f := fun z => cnt (g z) 16) (y := y) (c := cnt (g y) 16) (hgt g y) (fun z h1 h2 => cnt_congr 16 (fun x hx => hgt_in h1 h2 hx))]
    have hz : cnt (g y) (min 0 16) = 0 := rfl
    rw [hz]
    generalize cnt (g y) 16 = c
    have := Int.mul_comm (c : Int) (hgt g y : Int)
    push_cast
    rw [Int.sub_zero, this]
    omega)
theorem area_canon (g : Grid) : area (canon g) = card g := by rw [canon, canonR_area 0 (by omega)]; simp [sumN]
def Grid.or (g h : Grid) : Grid := fun y x => g y x || h y x
def Grid.and (g h : Grid) : Grid := fun y x => g y x && h y x
def Grid.without (g h : Grid) : Grid := fun y x => g y x && !h y x
def Grid.none : Grid := fun _ _ => false
def rectG (r : DRect) : Grid := fun y x => r.holds y x
theorem points_one (r : DRect) : points [r] = rectG r := by
  funext y x; rw [points_cons, points_nil, Bool.or_false]; rfl
theorem points_congr_append {k l : List DRect} : points (k ++ l) = (points k).or (points l) := by funext y x; exact points_append k l y x
def DRect.screen : DRect := ⟨0, 0, 16, 16⟩
theorem screen_ok : DRect.screen.ok := by unfold DRect.screen DRect.ok; dsimp only; omega
theorem inter_has {a b : DRect} (ha : a.ok) (hb : b.ok) (x y : Int) : (a.inter b).has x y ↔ a.has x y ∧ b.has x y := by
  have h1 := (DRect.inter_ok ha hb).1
  unfold DRect.has
  constructor
  · rintro ⟨_, h⟩
    unfold DRect.inter at h
    rw [if_pos ⟨ha, hb⟩] at h
    unfold DRect.ok at *
    split at h
    · dsimp only [DRect.zero] at h; omega
    · dsimp only at h; omega
  · rintro ⟨⟨_, h2⟩, ⟨_, h3⟩⟩
    refine ⟨h1, ?_⟩
    unfold DRect.inter
    rw [if_pos ⟨ha, hb⟩]
    split
    · omega
    · dsimp only; omega
theorem inter_not {a b : DRect} (h : ¬ a.ok ∨ ¬ b.ok) : a.inter b = DRect.zero := by
  unfold DRect.inter
  rw [if_neg (by rcases h with h | h; exact fun e => h e.1; exact fun e => h e.2)]
theorem zero_has (x y : Int) : ¬ DRect.zero.has x y := by unfold DRect.has DRect.zero; dsimp only; omega
theorem inter_holds {a b : DRect} (hb : b.ok) (y x : Nat) : (a.inter b).holds y x = (a.holds y x && b.holds y x) := by
  unfold DRect.holds
  by_cases ha : a.ok
  · rw [← Bool.decide_and]; exact decide_eq_decide.2 (inter_has ha hb x y)
  · rw [inter_not (.inl ha), decide_eq_false (zero_has _ _), decide_eq_false (fun h => ha h.1), Bool.false_and]
theorem inter_screen {r : DRect} : (rectG (r.inter DRect.screen)).eqv (rectG r) := fun y x hy hx => by
  show (r.inter DRect.screen).holds y x = r.holds y x
  rw [inter_holds screen_ok]
  have : DRect.screen.holds y x = true := by unfold DRect.holds DRect.has; exact decide_eq_true ⟨screen_ok, by unfold DRect.screen; dsimp only; omega⟩
  rw [this, Bool.and_true]

def bits (f : Nat → Bool) : Nat → Nat
  | 0 => 0
  | n + 1 => bits f n + (if f n = true then 2 ^ n else 0)
theorem bits_lt (f : Nat → Bool) : ∀ n, bits f n < 2 ^ n
  | 0 => by simp [bits]
  | n + 1 => by have := bits_lt f n; simp only [bits]; rw [Nat.pow_succ]; split <;> omega
theorem bits_testBit (f : Nat → Bool) : ∀ n i, (bits f n).testBit i = (decide (i < n) && f i)
  | 0, i => by simp [bits]
  | n + 1, i => by
    have hl := bits_lt f n
    have ih := bits_testBit f n i
    simp only [bits]
    cases hf : f n
    · simp only [Bool.false_eq_true, if_false, Nat.add_zero, ih]
      by_cases e : i = n
      · subst e; simp [hf]
      · by_cases h : i < n
        · simp [h, show i < n + 1 by omega]
        · simp [h, show ¬ i < n + 1 by omega]
    · simp only [if_true]
      rw [Nat.add_comm]
      by_cases e : i = n
      · subst e
        rw [Nat.testBit_two_pow_add_eq]
        rw [Nat.testBit_lt_two_pow hl]
        simp [hf]
      · by_cases h : i < n
        · rw [Nat.testBit_two_pow_add_gt h, ih]
          simp [h, show i < n + 1 by omega]
        · have : 2 ^ n + bits f n < 2 ^ i := by
            have h2 : 2 ^ (n + 1) ≤ 2 ^ i := Nat.pow_le_pow_right (by omega) (by omega)
            rw [Nat.pow_succ] at h2; omega
          rw [Nat.testBit_lt_two_pow this]
          simp [show ¬ i < n + 1 by omega]
theorem bits_or (f g : Nat → Bool) (n : Nat) : bits f n ||| bits g n = bits (fun i => f i || g i) n := by
  apply Nat.eq_of_testBit_eq; intro i
  rw [Nat.testBit_or, bits_testBit, bits_testBit, bits_testBit]; cases decide (i < n) <;> simp
theorem bits_and (f g : Nat → Bool) (n : Nat) : bits f n &&& bits g n = bits (fun i => f i && g i) n := by
  apply Nat.eq_of_testBit_eq; intro i
  rw [Nat.testBit_and, bits_testBit, bits_testBit, bits_testBit]; cases decide (i < n) <;> simp
theorem bits_congr {f g : Nat → Bool} : ∀ n, (∀ i, i < n → f i = g i) → bits f n = bits g n
  | 0, _ => rfl
  | n + 1, h => by simp only [bits]; rw [bits_congr n (fun i hi => h i (by omega)), h n (by omega)]
theorem bits_inj {f g : Nat → Bool} {n : Nat} : bits f n = bits g n ↔ ∀ i, i < n → f i = g i := by
  refine ⟨fun h i hi => ?_, bits_congr n⟩
  have h1 := bits_testBit f n i
  rw [h, bits_testBit] at h1
  simpa [hi] using h1.symm
theorem bits_span {X W n : Nat} (h : X + W ≤ n) : (2 ^ W - 1) * 2 ^ X = bits (fun i => decide (X ≤ i ∧ i < X + W)) n := by
  apply Nat.eq_of_testBit_eq; intro i
  rw [bits_testBit, ← Nat.shiftLeft_eq, Nat.testBit_shiftLeft, Nat.testBit_two_pow_sub_one]
  by_cases h1 : X ≤ i <;> by_cases h2 : i < X + W
  · simp [h1, h2, show i - X < W by omega, show i < n by omega]
  · simp [h1, h2, show ¬ i - X < W by omega]
  · simp [h1]
  · simp [h1]
theorem bits_and_bit (f : Nat → Bool) {n x : Nat} (hx : x < n) : bits f n &&& 2 ^ x = if f x = true then 2 ^ x else 0 := by
  apply Nat.eq_of_testBit_eq; intro i
  rw [Nat.testBit_and, bits_testBit, Nat.testBit_two_pow]
  by_cases e : x = i
  · subst e
    cases f x <;> simp [hx, Nat.testBit_two_pow_self]
  · cases f x <;> simp [e]
end Sx
namespace Sx

theorem mapTo_get (f : Int → Int → Int) (w : Int) {n q : Nat} (h : q < n) : (mapTo f w n).getD q 0 = f ((q : Int) % w) ((q : Int) / w) := by
  simp [mapTo, List.getD_eq_getElem?_getD, h]
theorem place_lt {w h x y : Int} (hx : 0 ≤ x ∧ x < w) (hy : 0 ≤ y ∧ y < h) : 0 ≤ y * w + x ∧ y * w + x < w * h ∧ (y * w + x).toNat < (w * h).toNat := by
  have h1 : 0 ≤ y * w := Int.mul_nonneg hy.1 (by omega)
  have h2 : (y + 1) * w ≤ h * w := Int.mul_le_mul_of_nonneg_right (by omega) (by omega)
  rw [Int.add_mul, Int.one_mul] at h2
  rw [Int.mul_comm h w] at h2
  omega
theorem mapTo_at (f : Int → Int → Int) {w h x y : Int} (hx : 0 ≤ x ∧ x < w) (hy : 0 ≤ y ∧ y < h) : (mapTo f w (w * h).toNat).getD (y * w + x).toNat 0 = f x y := by
  have h1 := place_lt hx hy
  have h2 := row_mod (w := w) hx hy.1
  rw [mapTo_get f w h1.2.2, Int.toNat_of_nonneg h1.1, h2.1, h2.2]
theorem mod_row {w : Int} {q : Nat} (hw : 1 ≤ w) : 0 ≤ (q : Int) % w ∧ (q : Int) % w < w ∧ 0 ≤ (q : Int) / w ∧ ((q : Int) / w) * w + (q : Int) % w = q := by
  have h1 := Int.emod_nonneg (q : Int) (b := w) (by omega)
  have h2 := Int.emod_lt_of_pos (q : Int) (b := w) (by omega)
  have h3 : 0 ≤ (q : Int) / w := Int.ediv_nonneg (by omega) (by omega)
  have h4 := Int.mul_ediv_add_emod (q : Int) w
  rw [Int.mul_comm] at h4
  exact ⟨h1, h2, h3, h4⟩
theorem div_lt {w h : Int} {q : Nat} (hw : 1 ≤ w) (hq : q < (w * h).toNat) : (q : Int) / w < h := by
  have h1 : (q : Int) < h * w := by rw [Int.mul_comm]; omega
  exact Int.ediv_lt_of_lt_mul (by omega) h1
theorem mapTo_congr {f g : Int → Int → Int} {w h : Int} (hw : 1 ≤ w) (e : ∀ x y, 0 ≤ x → x < w → 0 ≤ y → y < h → f x y = g x y) : mapTo f w (w * h).toNat = mapTo g w (w * h).toNat := by
  unfold mapTo
  apply List.map_congr_left
  intro q hq
  have := mod_row (w := w) (q := q) hw
  exact e _ _ this.1 this.2.1 this.2.2.1 (div_lt hw (List.mem_range.1 hq))
theorem list_eq_getD {l m : List Int} (hl : l.length = m.length) (h : ∀ i, i < l.length → l.getD i 0 = m.getD i 0) : l = m := by
  apply List.ext_getElem?
  intro i
  by_cases hi : i < l.length
  · have := h i hi
    simp only [List.getD_eq_getElem?_getD, List.getElem?_eq_getElem hi, List.getElem?_eq_getElem (show i < m.length by omega), Option.getD_some] at this
    rw [List.getElem?_eq_getElem hi, List.getElem?_eq_getElem (show i < m.length by omega), this]
  · rw [List.getElem?_eq_none (by omega), List.getElem?_eq_none (by omega)]
theorem mapTo_self {w h : Int} {l : List Int} (hw : 1 ≤ w) (hl : l.length = (w * h).toNat) : l = mapTo (fun x y => l.getD (y * w + x).toNat 0) w (w * h).toNat := by
  apply list_eq_getD (by rw [mapTo_length]; exact hl)
  intro q hq
  rw [mapTo_get _ _ (by omega)]
  rw [(mod_row hw).2.2.2]; simp
theorem mapTo_set (f : Int → Int → Int) {w h x y v : Int} (hx : 0 ≤ x ∧ x < w) (hy : 0 ≤ y ∧ y < h) :
    (mapTo f w (w * h).toNat).set (y * w + x).toNat v = mapTo (fun a b => if a = x ∧ b = y then v else f a b) w (w * h).toNat := by
  apply list_eq_getD (by simp [mapTo_length])
  intro q hq
  rw [List.length_set, mapTo_length] at hq
  have h1 := place_lt hx hy
  have h2 := row_mod (w := w) hx hy.1
  have h3 := mod_row (w := w) (q := q) (by omega)
  rw [mapTo_get _ _ hq, List.getD_eq_getElem?_getD, List.getElem?_set]
  by_cases e : (y * w + x).toNat = q
  · rw [if_pos e, if_pos (by rw [mapTo_length]; omega)]
    have e' : (q : Int) = y * w + x := by omega
    rw [e', h2.1, h2.2, if_pos ⟨rfl, rfl⟩]; rfl
  · rw [if_neg e, if_neg (fun hh => e (by
      have h4 := h3.2.2.2
      rw [hh.1, hh.2] at h4; omega))]
    rw [← List.getD_eq_getElem?_getD, mapTo_get _ _ hq]
def DImg.at (i : DImg) (x y : Int) : Int := i.data.getD (y * i.W + x).toNat 0
theorem DImg.ok.lenN {i : DImg} (h : i.ok) : i.data.length = (i.W * i.H).toNat := by have := h.2.2.1; omega
theorem DImg.ok.self {i : DImg} (h : i.ok) : i.data = mapTo i.at i.W (i.W * i.H).toNat := mapTo_self h.1.1 h.lenN
theorem DImg.ok.at_pix {i : DImg} (h : i.ok) (x y : Int) : pixP (i.at x y) := h.pix _
theorem DImg.ext' {i j : DImg} (hi : i.ok) (hj : j.ok) (h1 : i.W = j.W) (h2 : i.H = j.H) (h3 : ∀ x y, 0 ≤ x → x < i.W → 0 ≤ y → y < i.H → i.at x y = j.at x y) : i = j := by
  refine DImg.eq h1 h2 ?_
  rw [hi.self, hj.self, ← h1, ← h2]
  exact mapTo_congr hi.1.1 h3
def fimg (f : Int → Int → Int) (w h : Int) : DImg := ⟨w, h, mapTo f w (w * h).toNat⟩
theorem fimg_ok {f : Int → Int → Int} {w h : Int} (hw : 1 ≤ w ∧ w ≤ 16) (hh : 1 ≤ h ∧ h ≤ 16) (hf : ∀ x y, 0 ≤ x → x < w → 0 ≤ y → y < h → pixP (f x y)) : (fimg f w h).ok := by
  have hs := side_mul (w := w) (h := h) ⟨hw.1, hw.2, hh.1, hh.2⟩
  refine ⟨hw, hh, by simp only [fimg, mapTo_length]; omega, fun q hq => ?_⟩
  simp only [fimg, mapTo_length] at hq ⊢
  rw [mapTo_get _ _ hq]
  have := mod_row (w := w) (q := q) hw.1
  exact hf _ _ this.1 this.2.1 this.2.2.1 (div_lt hw.1 hq)
theorem fimg_at (f : Int → Int → Int) {w h x y : Int} (hx : 0 ≤ x ∧ x < w) (hy : 0 ≤ y ∧ y < h) : (fimg f w h).at x y = f x y := mapTo_at f hx hy
def rawRect (s : DSurf) : DRect := ⟨s.X, s.Y, (surfSize s).1, (surfSize s).2⟩
theorem surfSize_pic {s : DSurf} (h : s.ok) : (pictureOf s).W = (surfSize s).1 ∧ (pictureOf s).H = (surfSize s).2 := by
  have hb := h.2.2.2.2.2.2
  have ho := h.2.2.2.2.2.1
  have hsz := h.2.2.2.1
  unfold DSurf.sized at hsz
  unfold pictureOf rawPicture surfSize
  rw [if_pos h]
  unfold fadedImg
  by_cases e : s.W ≠ 0
  · rw [if_pos e, if_pos e]
    unfold scaled
    rw [if_pos ⟨oriented_ok hb ho, by omega, by omega⟩]; exact ⟨rfl, rfl⟩
  · rw [if_neg e, if_neg e]
    unfold oriented
    rw [if_pos ⟨hb, ho⟩]; exact ⟨rfl, rfl⟩
theorem surfSize_bd {s : DSurf} (h : s.ok) : (1 ≤ (surfSize s).1 ∧ (surfSize s).1 ≤ 16) ∧ (1 ≤ (surfSize s).2 ∧ (surfSize s).2 ≤ 16) := by
  have h1 := pictureOf_ok h
  have h2 := surfSize_pic h
  rw [← h2.1, ← h2.2]; exact ⟨h1.1, h1.2.1⟩
theorem rawRect_ok {s : DSurf} (h : s.ok) : (rawRect s).ok := by
  have h1 := surfSize_bd h
  have h2 := h.2.1
  have h3 := h.2.2.1
  unfold rawRect DRect.ok; dsimp only; omega
theorem surfRect_vis {s : DSurf} (h : s.ok) (hv : s.Visible = true) : surfRect s = rawRect s := by unfold surfRect; rw [if_pos ⟨h, hv⟩]; rfl
theorem surfRect_hid {s : DSurf} (hv : ¬ s.Visible = true) : surfRect s = DRect.zero := by unfold surfRect; rw [if_neg (fun e => hv e.2)]
theorem surfRect_ok (s : DSurf) : (surfRect s).ok := by
  by_cases h : s.ok ∧ s.Visible = true
  · rw [surfRect_vis h.1 h.2]; exact rawRect_ok h.1
  · unfold surfRect; rw [if_neg h]; unfold DRect.zero DRect.ok; dsimp only; omega
def pixOf (s : DSurf) (x y : Int) : Int := (pictureOf s).at (x - s.X) (y - s.Y)
def layer (s : DSurf) (x y b : Int) : Int := if (surfRect s).has x y then over (pixOf s x y) b else b
theorem layer_pix {s : DSurf} {x y b : Int} (h : s.ok) (hb : pixP b) : pixP (layer s x y b) := by
  unfold layer
  split
  · have := over_bd ((pictureOf_ok h).at_pix (x - s.X) (y - s.Y)) hb
    show pixP (over ((pictureOf s).at (x - s.X) (y - s.Y)) b)
    unfold pixP; omega
  · exact hb
def layers (l : List DSurf) (x y b : Int) : Int := l.foldl (fun q s => layer s x y q) b
theorem layers_append (k l : List DSurf) (x y b : Int) : layers (k ++ l) x y b = layers l x y (layers k x y b) := by simp [layers]
theorem layers_cons (s : DSurf) (l : List DSurf) (x y b : Int) : layers (s :: l) x y b = layers l x y (layer s x y b) := rfl
theorem layers_pix : ∀ {l : List DSurf} {x y b : Int}, (∀ s ∈ l, s.ok) → pixP b → pixP (layers l x y b)
  | [], _, _, _, _, h => h
  | s :: l, x, y, b, hl, h => by
    rw [layers_cons]
    exact layers_pix (fun q hq => hl q (List.mem_cons_of_mem _ hq)) (layer_pix (hl s (List.mem_cons_self ..)) h)
theorem surfsOk_mem {l : List DSurf} (h : surfsOk l l.length) : ∀ s ∈ l, s.ok := fun s hs => by
  obtain ⟨i, hi, e⟩ := List.mem_iff_getElem.1 hs
  have := (h i hi).1
  rw [List.getD_eq_getElem?_getD, List.getElem?_eq_getElem hi, Option.getD_some, e] at this
  exact this
def paintF (s : DScene) (x y : Int) : Int := layers s.ss x y s.Back
def painted (s : DScene) : DImg := fimg (paintF s) s.W s.H
def paint (s : DScene) : DImg := if s.ok then painted s else DImg.zero
def paintAt (s : DScene) (x y : Int) : Int := if s.ok ∧ (0 ≤ x ∧ x ≤ s.W - 1) ∧ (0 ≤ y ∧ y ≤ s.H - 1) then paintF s x y else -1
theorem DScene.ok.back {s : DScene} (h : s.ok) : pixP s.Back := h.2.2.1.1
theorem DScene.ok.surf {s : DScene} (h : s.ok) {q : DSurf} (hq : q ∈ s.ss) : q.ok := surfsOk_mem h.2.2.2.2 q hq
theorem paintF_pix {s : DScene} (h : s.ok) (x y : Int) : pixP (paintF s x y) := layers_pix (fun q hq => h.surf hq) h.back
theorem painted_ok {s : DScene} (h : s.ok) : (painted s).ok := fimg_ok h.1 h.2.1 (fun x y _ _ _ _ => paintF_pix h x y)
def paintTo (s : DScene) (n : Nat) (x y : Int) : Int := layers (s.ss.take n) x y s.Back
theorem paintTo_succ {s : DScene} {n : Nat} (h : n < s.ss.length) (x y : Int) : paintTo s (n + 1) x y = layer (s.ss.getD n default) x y (paintTo s n x y) := by
  unfold paintTo
  rw [List.take_add_one, List.getElem?_eq_getElem h, Option.toList_some, layers_append]
  simp [layers, List.getD_eq_getElem?_getD, List.getElem?_eq_getElem h]
theorem paintTo_all (s : DScene) (x y : Int) : paintTo s s.ss.length x y = paintF s x y := by unfold paintTo paintF; rw [List.take_length]
theorem paintTo_pix {s : DScene} (h : s.ok) (n : Nat) (x y : Int) : pixP (paintTo s n x y) := layers_pix (fun q hq => h.surf (List.mem_of_mem_take hq)) h.back

def hitTo (s : DSurf) (k : Nat) (x y : Int) : Prop := (rawRect s).has x y ∧ (y - s.Y) * (surfSize s).1 + (x - s.X) < k
instance (s : DSurf) (k : Nat) (x y : Int) : Decidable (hitTo s k x y) := by unfold hitTo; infer_instance
def inG (g : Grid) (x y : Int) : Bool := g y.toNat x.toNat
def oneTo (s : DSurf) (g : Grid) (old : Int → Int → Int) (k : Nat) (x y : Int) : Int := if hitTo s k x y ∧ inG g x y = true then over (pixOf s x y) (old x y) else old x y
def kx (s : DSurf) (k : Nat) : Int := s.X + (k : Int) % (surfSize s).1
def ky (s : DSurf) (k : Nat) : Int := s.Y + (k : Int) / (surfSize s).1
theorem hitTo_zero {s : DSurf} (h : s.ok) (x y : Int) : ¬ hitTo s 0 x y := by
  rintro ⟨⟨_, h1⟩, h2⟩
  have hs := surfSize_bd h
  unfold rawRect at h1; dsimp only at h1
  have : 0 ≤ (y - s.Y) * (surfSize s).1 := Int.mul_nonneg (by omega) (by omega)
  omega
theorem hitTo_succ {s : DSurf} (h : s.ok) {k : Nat} (hk : k < ((surfSize s).1 * (surfSize s).2).toNat) (x y : Int) : hitTo s (k + 1) x y ↔ hitTo s k x y ∨ (x = kx s k ∧ y = ky s k) := by
  have hs := surfSize_bd h
  have hm := mod_row (w := (surfSize s).1) (q := k) (by omega)
  have hd := div_lt (w := (surfSize s).1) (h := (surfSize s).2) (q := k) (by omega) hk
  constructor
  · rintro ⟨h1, h2⟩
    by_cases e : (y - s.Y) * (surfSize s).1 + (x - s.X) < k
    · exact .inl ⟨h1, e⟩
    · refine .inr ?_
      have e2 : (y - s.Y) * (surfSize s).1 + (x - s.X) = k := by push_cast at h2; omega
      have h3 := h1.2
      unfold rawRect at h3; dsimp only at h3
      have := row_mod (w := (surfSize s).1) (x := x - s.X) (y := y - s.Y) (by omega) (by omega)
      rw [e2] at this
      unfold kx ky
      omega
  · rintro (⟨h1, h2⟩ | ⟨rfl, rfl⟩)
    · exact ⟨h1, by push_cast; omega⟩
    · refine ⟨⟨rawRect_ok h, ?_⟩, ?_⟩
      · unfold rawRect kx ky; dsimp only; omega
      · unfold kx ky
        rw [show s.Y + (k : Int) / (surfSize s).1 - s.Y = (k : Int) / (surfSize s).1 by omega, show s.X + (k : Int) % (surfSize s).1 - s.X = (k : Int) % (surfSize s).1 by omega]
        push_cast; omega
theorem hitTo_not {s : DSurf} (h : s.ok) {k : Nat} : ¬ hitTo s k (kx s k) (ky s k) := by
  have hs := surfSize_bd h
  have hm := mod_row (w := (surfSize s).1) (q := k) (by omega)
  rintro ⟨_, h2⟩
  unfold kx ky at h2
  rw [show s.Y + (k : Int) / (surfSize s).1 - s.Y = (k : Int) / (surfSize s).1 by omega, show s.X + (k : Int) % (surfSize s).1 - s.X = (k : Int) % (surfSize s).1 by omega] at h2
  omega
theorem hitTo_all {s : DSurf} (h : s.ok) (x y : Int) : hitTo s ((surfSize s).1 * (surfSize s).2).toNat x y ↔ (rawRect s).has x y := by
  have hs := surfSize_bd h
  have hp := side_mul (w := (surfSize s).1) (h := (surfSize s).2) ⟨hs.1.1, hs.1.2, hs.2.1, hs.2.2⟩
  refine ⟨fun hh => hh.1, fun hh => ⟨hh, ?_⟩⟩
  have h3 := hh.2
  unfold rawRect at h3; dsimp only at h3
  have := (place_lt (w := (surfSize s).1) (h := (surfSize s).2) (x := x - s.X) (y := y - s.Y) (by omega) (by omega)).2.1
  omega
theorem oneTo_zero {s : DSurf} (h : s.ok) (g : Grid) (old : Int → Int → Int) (x y : Int) : oneTo s g old 0 x y = old x y := by
  unfold oneTo; rw [if_neg (fun e => hitTo_zero h x y e.1)]
theorem pixOf_k {s : DSurf} (h : s.ok) {k : Nat} (hk : k < ((surfSize s).1 * (surfSize s).2).toNat) : pixOf s (kx s k) (ky s k) = (pictureOf s).data.getD k 0 := by
  have hs := surfSize_bd h
  have hm := mod_row (w := (surfSize s).1) (q := k) (by omega)
  unfold pixOf DImg.at kx ky
  rw [(surfSize_pic h).1]
  rw [show s.Y + (k : Int) / (surfSize s).1 - s.Y = (k : Int) / (surfSize s).1 by omega, show s.X + (k : Int) % (surfSize s).1 - s.X = (k : Int) % (surfSize s).1 by omega, hm.2.2.2]
  simp
theorem oneTo_hit {s : DSurf} (h : s.ok) (g : Grid) (old : Int → Int → Int) {k : Nat} (hk : k < ((surfSize s).1 * (surfSize s).2).toNat) (hg : inG g (kx s k) (ky s k) = true) (x y : Int) :
    oneTo s g old (k + 1) x y = if x = kx s k ∧ y = ky s k then over ((pictureOf s).data.getD k 0) (oneTo s g old k (kx s k) (ky s k)) else oneTo s g old k x y := by
  unfold oneTo
  by_cases e : x = kx s k ∧ y = ky s k
  · rw [if_pos e]
    obtain ⟨rfl, rfl⟩ := e
    rw [if_pos ⟨(hitTo_succ h hk _ _).2 (.inr ⟨rfl, rfl⟩), hg⟩, if_neg (fun hh => hitTo_not h hh.1), pixOf_k h hk]
  · rw [if_neg e]
    have : hitTo s (k + 1) x y ↔ hitTo s k x y := by rw [hitTo_succ h hk]; exact ⟨fun hh => hh.resolve_right e, .inl⟩
    by_cases e2 : hitTo s k x y ∧ inG g x y = true
    · rw [if_pos e2, if_pos ⟨this.2 e2.1, e2.2⟩]
    · rw [if_neg e2, if_neg (fun hh => e2 ⟨this.1 hh.1, hh.2⟩)]
theorem oneTo_miss {s : DSurf} (h : s.ok) (g : Grid) (old : Int → Int → Int) {k : Nat} (hk : k < ((surfSize s).1 * (surfSize s).2).toNat) (x y : Int) (hg : ¬ (x = kx s k ∧ y = ky s k ∧ inG g x y = true)) : oneTo s g old (k + 1) x y = oneTo s g old k x y := by
  unfold oneTo
  have hx := hitTo_succ h hk x y
  by_cases e2 : hitTo s k x y ∧ inG g x y = true
  · rw [if_pos e2, if_pos ⟨hx.2 (.inl e2.1), e2.2⟩]
  · rw [if_neg e2, if_neg (fun hh => by
      rcases hx.1 hh.1 with h1 | ⟨h1, h2⟩
      · exact e2 ⟨h1, hh.2⟩
      · exact hg ⟨h1, h2, hh.2⟩)]
theorem oneTo_all {s : DSurf} (h : s.ok) (g : Grid) (old : Int → Int → Int) (x y : Int) : oneTo s g old ((surfSize s).1 * (surfSize s).2).toNat x y = if (rawRect s).has x y ∧ inG g x y = true then over (pixOf s x y) (old x y) else old x y := by
  unfold oneTo
  by_cases e : (rawRect s).has x y ∧ inG g x y = true
  · rw [if_pos e, if_pos ⟨(hitTo_all h x y).2 e.1, e.2⟩]
  · rw [if_neg e, if_neg (fun hh => e ⟨(hitTo_all h x y).1 hh.1, hh.2⟩)]
theorem oneTo_pix {s : DSurf} (h : s.ok) (g : Grid) {old : Int → Int → Int} (k : Nat) {x y : Int} (ho : pixP (old x y)) : pixP (oneTo s g old k x y) := by
  unfold oneTo
  split
  · have := over_bd ((pictureOf_ok h).at_pix (x - s.X) (y - s.Y)) ho
    show pixP (over ((pictureOf s).at (x - s.X) (y - s.Y)) (old x y))
    unfold pixP; omega
  · exact ho
end Sx
