/-
  Rules for unsigned numbers, copies, slices; slices.Repeat of one number.
-/
import Derived.Test.YtfmjeakcfmmkfaaGreatK3
set_option linter.unusedVariables false
namespace Go.Proofs.YtfmjeakcfmmkfaaGreat
open Go Sx
attribute [local irreducible] Exit.then Exit.inBlock bodyPost
theorem u64_in (i : Int) (h : 0 ≤ i ∧ i ≤ 18446744073709551615) : IntKind.u64.wrap i = i := by
  simp [IntKind.wrap, IntKind.bits, IntKind.signed]; omega
section
variable {P : Program} {n : Nat} {lo : SMut} {s : World} {E : SEnv} {L : SHeap} {d : Option Tmp} {ty : TypeId} {pos : String} {after : Array Edge} {g : Option (Nat × Bool)} {x y : Operand} {xt yt : TypeId} {i j : Int}
theorem ov_addU (q : Int) (hx : sval E x = some (.int .u64 i)) (hy : sval E y = some (.int .u64 j)) (h : i + j = q) (hq : 0 ≤ q ∧ q ≤ 18446744073709551615) : SOpV P n lo s E L ⟨d, .binOp .add xt x y yt, ty, pos, after, g⟩ (.int .u64 q) :=
  SOpV.of_run fun a ha w hw => by simp [execOp, eqGuard, binOp, Op.intArith, ha.sval hx, ha.sval hy, h, u64_in _ hq]
theorem ov_mulU (q : Int) (hx : sval E x = some (.int .u64 i)) (hy : sval E y = some (.int .u64 j)) (h : i * j = q) (hq : 0 ≤ q ∧ q ≤ 18446744073709551615) : SOpV P n lo s E L ⟨d, .binOp .mul xt x y yt, ty, pos, after, g⟩ (.int .u64 q) :=
  SOpV.of_run fun a ha w hw => by simp [execOp, eqGuard, binOp, Op.intArith, ha.sval hx, ha.sval hy, h, u64_in _ hq]
theorem ov_shrU {kj : IntKind} (q : Int) (hx : sval E x = some (.int .u64 i)) (hy : sval E y = some (.int kj j)) (hj : 0 ≤ j ∧ j ≤ 62) (hq : i / 2 ^ j.toNat = q) : SOpV P n lo s E L ⟨d, .binOp .shr xt x y yt, ty, pos, after, g⟩ (.int .u64 q) :=
  SOpV.of_run fun a ha w hw => by
    have h0 : ¬ j < 0 := by omega
    have h1 : min j.toNat (IntKind.bits .u64) = j.toNat := by simp [IntKind.bits]; omega
    have h2 : i.fdiv (2 ^ j.toNat) = i / 2 ^ j.toNat := Int.fdiv_eq_ediv_of_nonneg _ (Int.le_of_lt (Int.pow_pos (by omega)))
    simp [execOp, eqGuard, binOp, Op.shift, ha.sval hx, ha.sval hy, h0, h1, h2, hq]
theorem ov_andU (q : Int) (hx : sval E x = some (.int .u64 i)) (hy : sval E y = some (.int .u64 4294967295)) (hi : 0 ≤ i ∧ i ≤ 4294967295) (hq : i = q) : SOpV P n lo s E L ⟨d, .binOp .and xt x y yt, ty, pos, after, g⟩ (.int .u64 q) :=
  SOpV.of_run fun a ha w hw => by
    subst hq
    obtain ⟨m, rfl⟩ := Int.eq_ofNat_of_zero_le hi.1
    have hm : m < 2 ^ 32 := by omega
    have h1 : (BitVec.ofInt 64 (m : Int)).toNat = m := by rw [BitVec.toNat_ofInt]; omega
    have h2 : (BitVec.ofInt 64 4294967295).toNat = 2 ^ 32 - 1 := by decide
    have h3 : ((BitVec.ofInt 64 (m : Int) &&& BitVec.ofInt 64 4294967295).toNat : Int) = m := by
      rw [BitVec.toNat_and, h1, h2, Nat.and_two_pow_sub_one_eq_mod, Nat.mod_eq_of_lt hm]
    have : (execOp a.eval ⟨d, .binOp .and xt x y yt, ty, pos, after, g⟩).run P w = .ok (.value (.int .u64 (IntKind.u64.wrap ((BitVec.ofInt 64 (m : Int) &&& BitVec.ofInt 64 4294967295).toNat : Int)))) w := by
      simp only [execOp, eqGuard, binOp, Op.intBits, ha.sval hx, ha.sval hy]
      rfl
    rw [this, h3, u64_in _ (by omega)]
theorem ov_convU {src dst : TypeId} {sd : TypeDesc} {k : IntKind} [hs : SUnd P src sd] [hd : SUnd P dst (.int .u64)] (hx : sval E x = some (.int k i)) (h : 0 ≤ i ∧ i ≤ 18446744073709551615) :
    SOpV P n lo s E L ⟨d, .convert src dst x, ty, pos, after, g⟩ (.int .u64 i) :=
  SOpV.of_run fun a ha w hw => by
    have e : P.intKind dst = .u64 := by unfold Program.intKind; rw [hd.h]
    have h1 := run_convert_int (P := P) (w := w) src dst k i (by rw [hs.h]; rfl) (by rw [e]; exact hd.h)
    rw [e] at h1
    simp [execOp, ha.sval hx, h1, u64_in i h]
/-- s[:hi] of an own slice -/
theorem ov_sliceHi {t e : TypeId} {a : Option Addr} {m c : Nat} {z : Value} {kk by_ : Nat} {ik : IntKind} [hu : SUnd P t (.slice e)] [hi : SInf P e z kk by_] (hx : sval E x = some (.slice a m c)) (hy : sval E y = some (.int ik j)) (hj : 0 ≤ j ∧ j ≤ c) :
    SOpV P n lo s E L ⟨d, .slice t x none (some y) none, ty, pos, after, g⟩ (.slice a j.toNat c) :=
  SOpV.of_run fun aa ha w hw => by
    cases a with
    | none => simp [execOp, Instr.sliceAt, Instr.slice, Instr.sliceBounds, Instr.sliceBound, asIntOf, ha.sval hx, ha.sval hy, srun_und, srun_sizeOf, hj.1, hj.2]
    | some A =>
      have hA : A.add 0 = A := rfl
      simp [execOp, Instr.sliceAt, Instr.slice, Instr.sliceBounds, Instr.sliceBound, asIntOf, ha.sval hx, ha.sval hy, srun_und, srun_sizeOf, hj.1, hj.2, hA]
/-- s[lo:] of an own slice -/
theorem ov_sliceLo {t e : TypeId} {b o m c : Nat} {z : Value} {by_ : Nat} {ik : IntKind} [hu : SUnd P t (.slice e)] [hi : SInf P e z 1 by_] (hx : sval E x = some (.slice (some ⟨b, o, none⟩) m c)) (hy : sval E y = some (.int ik j)) (hj : 0 ≤ j ∧ j ≤ m ∧ j < c) :
    SOpV P n lo s E L ⟨d, .slice t x (some y) none none, ty, pos, after, g⟩ (.slice (some ⟨b, o + j.toNat, none⟩) (m - j.toNat) (c - j.toNat)) :=
  SOpV.of_run fun aa ha w hw => by
    have hc : ¬ c = j.toNat := by omega
    simp [execOp, Instr.sliceAt, Instr.slice, Instr.sliceBounds, Instr.sliceBound, asIntOf, ha.sval hx, ha.sval hy, srun_und, srun_sizeOf, hj.1, hj.2.1, hc, Addr.add_lit]
end
section
variable {P : Program} {n : Nat} {lo : SMut} {s : World} {ops : Array Oper} {Q : Exit → Act → World → Prop} {E : SEnv} {L : SHeap} {d : Nat} {ty : TypeId} {pos : String} {after : Array Edge} {rest : List Oper}
/-- copy into an own block of one-cell elements -/
theorem s_copyOwn (i : Nat) {dT sT e X : TypeId} {x y : Operand} {b o m c m2 c2 : Nat} {a : Addr} {cur cs : List Value} {T : TypeId} {z : Value} {by_ : Nat} [hu : SUnd P dT (.slice e)] [hi : SInf P e z 1 by_]
    (hx : sval E x = some (.slice (some ⟨b, o, none⟩) m c)) (hy : sval E y = some (.slice (some a) m2 c2)) (hL : getL L i = some [(b, srow cur T)]) (hn : cs.length = Nat.min m2 m) (hfit : o + cs.length ≤ cur.length) (h1 : oneCells cs = true)
    (hsrc : ∀ w, SSt lo s L w → ∀ j v, cs[j]? = some v → w.cell? (a.add j) = some v) (hd : Nat.blt d n = true)
    (kk : WPL P n lo s ops Q rest ((d, .int .i64 cs.length) :: E) (setL L i [(b, srow (cur.take o ++ cs ++ cur.drop (o + cs.length)) T)])) :
    WPL P n lo s ops Q (⟨some d, .call { callee := .builtin .copy, args := #[x, y], argTypes := #[dT, sT] }, X, pos, after, none⟩ :: rest) E L := by
  refine s_eff (E' := fun _ _ => []) (fun w u w' => u = .int .i64 cs.length ∧ w' = w.setRow b (cur.take o ++ cs ++ cur.drop (o + cs.length)).toArray) (fun aa w ha hw => ⟨_, _, ?_, rfl, rfl⟩) hd ?_
  · obtain ⟨ii, i1, i2, i3, i4⟩ := hi.out
    have hblk := (hw.blocks b _ (getL_flat hL (List.mem_singleton.2 rfl))).2
    have h := run_copy_row (P := P) w dT sT X e b o m c a m2 c2 cur.toArray T cs hu.h (by rw [i1]; simp [i3]) hblk hn (hsrc w hw) (by simpa using hfit) (oneCells_mem h1)
    simp [execOp, resolve, invoke, builtin, ha.sval hx, ha.sval hy, h, goInt]
  · rintro w u w' hw ⟨rfl, rfl⟩ aa ha
    exact (by unfold WPL at kk; exact kk aa _ ha (hw.srow hL))
end
theorem c_mul64 (q : Int) (w : World) (h : 0 ≤ q ∧ q ≤ 1000000) : SYields Tryz.prog 222 #[.int .u64 1, .int .u64 q] (.tuple #[.int .u64 0, .int .u64 q]) w := by
  (first | apply SYields.mk | apply SYieldsF.mk | skip); refine s_enter Tryz.func222 rfl Tryz.ntmps222 rfl ?_
  repeat' (first | exact rfl | (apply kO; (first | exact ov_pure rfl | (apply kOBin; (first | exact aBin | exact (ov_andU 1 rfl rfl (by omega) (by omega)) | exact (ov_andU q rfl rfl (by omega) (by omega)) | exact (ov_andU 0 rfl rfl (by omega) (by omega)) | exact (ov_shrU 0 rfl rfl (by omega) (by simp; try omega)))) | (apply kOCall; (first | (apply kCallB; (first | exact aBlt | exact aLenR)))) | (apply kOLoad; (first | exact aLdF | exact aLdR)) | exact ov_fieldAddr rfl | (apply kOIdx; (first | exact aIdx)) | exact aRest | exact (ov_mulU q rfl rfl (by omega) (by omega)) | exact (ov_mulU 0 rfl rfl (by omega) (by omega)) | exact (ov_addU 0 rfl rfl (by omega) (by omega)) | exact aNew | exact (ov_field1 (ft := 31) rfl rfl rfl rfl))) | (refine kN ?_; (first | (refine kStore ?_; (first | refine s_store1 _ rfl rfl gpA rfl (by rfl) ?_ | refine s_storeS _ rfl rfl gpA rfl rfl (by rfl) ?_ | refine s_storeS _ rfl rfl gpA rfl (ones_img oiA) (by rfl) ?_)) | refine s_boxS rfl rfl (fun b hb => ?_) | refine s_allocS rfl (fun b hb => ?_) | refine s_box1 rfl rfl rfl (fun b hb => ?_) | refine s_alloc1 rfl rfl (fun b hb => ?_) | refine s_buildSlice0 rfl (fun b hb => ?_) | refine s_buildSlice rfl rfl rfl rfl rfl (fun b hb => ?_) | apply s_step)) | (refine kG ?_; (first | refine s_gyes rfl rfl rfl ?_ | refine s_gno rfl rfl rfl rfl rfl ?_ | ((first | refine s_split_d rfl rfl (fun h => ?_) (fun h => ?_) | refine s_split_n rfl rfl (fun h => ?_) (fun h => ?_)) <;> (try (first | contradiction | (exfalso; omega)))) | refine s_split_nb rfl rfl (fun h => ?_) (fun h => ?_) | refine s_split rfl rfl (fun h => ?_) (fun h => ?_))) | refine l_then ?_ | (refine kC ?_; (first | refine c_seq ?_ | refine c_region ?_ | refine c_ret ?_ | (refine kCond ?_; (first | refine c_cond_t rfl ?_ | refine c_cond_f rfl ?_ | ((first | refine c_cond_d rfl (fun h => ?_) (fun h => ?_) | refine c_cond_n rfl (fun h => ?_) (fun h => ?_)) <;> (try (first | contradiction | (exfalso; omega)))) | refine c_cond_nb rfl (fun h => ?_) (fun h => ?_) | refine c_cond rfl (fun h => ?_) (fun h => ?_))) | refine c_block ?_ | refine c_skip ?_ | refine c_exit ?_ | refine c_regionQ rfl (by decide +kernel) ?_)) | apply s_stepQ | (refine kQG ?_; (first | refine s_gyesQ rfl rfl rfl ?_ | refine s_gnoQ rfl rfl rfl rfl rfl ?_ | ((first | refine s_splitQ_d rfl rfl (fun h => ?_) (fun h => ?_) | refine s_splitQ_n rfl rfl (fun h => ?_) (fun h => ?_)) <;> (try (first | contradiction | (exfalso; omega)))) | refine s_splitQ_nb rfl rfl (fun h => ?_) (fun h => ?_) | refine s_splitQ rfl rfl (fun h => ?_) (fun h => ?_))) | refine lQ_then ?_ | refine lQ_ends ?_ | (refine kE ?_; (first | refine e_then_r ?_ | refine e_block_r ?_ | refine e_then_n ?_ | refine e_then_x ?_ | refine e_block_n ?_ | refine e_block_x ?_ | refine e_block_y rfl ?_)) | refine l_ends ?_)
  all_goals exact s_leave2 rfl rfl rfl (fun w hw => ⟨rfl, hw.below⟩)
theorem c_mul (q : Int) (w : World) (h : 0 ≤ q ∧ q ≤ 1000000) : SYields Tryz.prog 197 #[.int .u64 1, .int .u64 q] (.tuple #[.int .u64 0, .int .u64 q]) w := by
  (first | apply SYields.mk | apply SYieldsF.mk | skip); refine s_enter Tryz.func197 rfl Tryz.ntmps197 rfl ?_
  repeat' (first | exact rfl | (apply kO; (first | exact ov_pure rfl | (apply kOBin; (first | exact aBin)) | (apply kOCall; (first | (apply kCallF; (first | exact (ov_call rfl (fun w hw => c_mul64 _ w (by omega))))) | (apply kCallB; (first | exact aBlt | exact aLenR)))) | (apply kOLoad; (first | exact aLdF | exact aLdR)) | exact ov_fieldAddr rfl | (apply kOIdx; (first | exact aIdx)) | exact aRest | exact aNew | exact (ov_field1 (ft := 31) rfl rfl rfl rfl))) | (refine kN ?_; (first | (refine kStore ?_; (first | refine s_store1 _ rfl rfl gpA rfl (by rfl) ?_ | refine s_storeS _ rfl rfl gpA rfl rfl (by rfl) ?_ | refine s_storeS _ rfl rfl gpA rfl (ones_img oiA) (by rfl) ?_)) | refine s_boxS rfl rfl (fun b hb => ?_) | refine s_allocS rfl (fun b hb => ?_) | refine s_box1 rfl rfl rfl (fun b hb => ?_) | refine s_alloc1 rfl rfl (fun b hb => ?_) | refine s_buildSlice0 rfl (fun b hb => ?_) | refine s_buildSlice rfl rfl rfl rfl rfl (fun b hb => ?_) | apply s_step)) | (refine kG ?_; (first | refine s_gyes rfl rfl rfl ?_ | refine s_gno rfl rfl rfl rfl rfl ?_ | ((first | refine s_split_d rfl rfl (fun h => ?_) (fun h => ?_) | refine s_split_n rfl rfl (fun h => ?_) (fun h => ?_)) <;> (try (first | contradiction | (exfalso; omega)))) | refine s_split_nb rfl rfl (fun h => ?_) (fun h => ?_) | refine s_split rfl rfl (fun h => ?_) (fun h => ?_))) | refine l_then ?_ | (refine kC ?_; (first | refine c_seq ?_ | refine c_region ?_ | refine c_ret ?_ | (refine kCond ?_; (first | refine c_cond_t rfl ?_ | refine c_cond_f rfl ?_ | ((first | refine c_cond_d rfl (fun h => ?_) (fun h => ?_) | refine c_cond_n rfl (fun h => ?_) (fun h => ?_)) <;> (try (first | contradiction | (exfalso; omega)))) | refine c_cond_nb rfl (fun h => ?_) (fun h => ?_) | refine c_cond rfl (fun h => ?_) (fun h => ?_))) | refine c_block ?_ | refine c_skip ?_ | refine c_exit ?_ | refine c_regionQ rfl (by decide +kernel) ?_)) | apply s_stepQ | (refine kQG ?_; (first | refine s_gyesQ rfl rfl rfl ?_ | refine s_gnoQ rfl rfl rfl rfl rfl ?_ | ((first | refine s_splitQ_d rfl rfl (fun h => ?_) (fun h => ?_) | refine s_splitQ_n rfl rfl (fun h => ?_) (fun h => ?_)) <;> (try (first | contradiction | (exfalso; omega)))) | refine s_splitQ_nb rfl rfl (fun h => ?_) (fun h => ?_) | refine s_splitQ rfl rfl (fun h => ?_) (fun h => ?_))) | refine lQ_then ?_ | refine lQ_ends ?_ | (refine kE ?_; (first | refine e_then_r ?_ | refine e_block_r ?_ | refine e_then_n ?_ | refine e_then_x ?_ | refine e_block_n ?_ | refine e_block_x ?_ | refine e_block_y rfl ?_)) | refine l_ends ?_)
  all_goals exact s_leave2 rfl rfl rfl (fun w hw => ⟨rfl, hw.below⟩)
def fillP (p : Int) (n j : Nat) : List Int := List.replicate j p ++ List.replicate (n - j) 0
theorem fillP_length (p : Int) {n j : Nat} (h : j ≤ n) : (fillP p n j).length = n := by simp [fillP]; omega
theorem fillP_copy (p : Int) {n j m : Nat} (hj : j + m ≤ n) : (ivals (fillP p n j)).take j ++ ivals (List.replicate m p) ++ (ivals (fillP p n j)).drop (j + (ivals (List.replicate m p)).length) = ivals (fillP p n (j + m)) := by
  have e1 : (ivals (fillP p n j)).take j = ivals (List.replicate j p) := by
    simp [fillP, ivals]
  have e2 : (ivals (fillP p n j)).drop (j + m) = ivals (List.replicate (n - (j + m)) 0) := by
    simp only [fillP, ivals, List.map_append, List.map_replicate]
    rw [List.drop_append, List.drop_of_length_le (by simp), List.nil_append, List.length_replicate, List.drop_replicate]
    congr 1; omega
  rw [ivals_length, List.length_replicate, e1, e2]
  simp [fillP, ivals, ← List.append_assoc, List.replicate_append_replicate]
theorem fillP_one (p : Int) {n : Nat} : (List.replicate n (Value.int .i64 0)).take 0 ++ [Value.int .i64 p] ++ (List.replicate n (Value.int .i64 0)).drop (0 + [Value.int .i64 p].length) = ivals (fillP p n 1) := by
  simp [fillP, ivals]
theorem fillP_src (p : Int) {n j k m : Nat} {u : Value} (h : (ivals (List.replicate (min j k) p))[m]? = some u) : (ivals (fillP p n j))[m]? = some u := by
  simp only [ivals, fillP, List.map_append, List.map_replicate, List.getElem?_replicate] at h ⊢
  split at h
  · rw [List.getElem?_append_left (by simp; omega), List.getElem?_replicate, if_pos (by omega)]; exact h
  · cases h
theorem fillP_all (p : Int) (n : Nat) : fillP p n n = List.replicate n p := by simp [fillP]
theorem c_repeat (v : Value) (p q : Int) (w : World) (hv : RInts w v [p]) (hq : 1 ≤ q ∧ q ≤ 100000) : SYieldsF Tryz.prog 143 #[v, .int .i64 q] (fun u H => OInts 3 u (List.replicate q.toNat p) H) w := by
  have hv' := hv.form
  obtain ⟨a, c, rfl⟩ := hv'
  obtain ⟨b0, o0, rfl⟩ : ∃ b o, a = some ⟨b, o, none⟩ := by
    obtain ⟨a', c', he, hf⟩ := RRow.form hv
    obtain ⟨b, o, rfl⟩ := hf (by simp)
    cases he; exact ⟨b, o, rfl⟩
  have hs1 : ([p].length : Nat) = 1 := rfl
  rw [hs1]
  have hf0 := fillP_copy p (n := q.toNat) (j := 0) (m := 1) (by omega)
  (first | apply SYields.mk | apply SYieldsF.mk | skip); refine s_enter Tryz.func143 rfl Tryz.ntmps143 rfl ?_
  repeat' (first | exact rfl | (apply kO; (first | exact ov_pure rfl | (apply kOBin; (first | exact aBin | exact (ov_add rfl rfl (by rw [ivals_length, List.length_replicate]; omega)))) | (apply kOCall; (first | (apply kCallF; (first | exact (ov_call rfl (fun w hw => c_mul _ w (by omega))))) | (apply kCallB; (first | exact aBlt | exact aLenR)))) | (apply kOLoad; (first | exact aLdF | exact aLdR)) | exact ov_fieldAddr rfl | (apply kOIdx; (first | exact aIdx)) | exact aRest | exact (ov_convU rfl (by omega)) | exact (ov_gtr rfl rfl) | (apply kSlice; exact (ov_sliceHi rfl rfl (by omega))) | (apply kSlice; exact (ov_sliceLo rfl rfl (by omega))) | exact aNew | exact (ov_field1 (ft := 31) rfl rfl rfl rfl))) | (refine kN ?_; (first | (refine kCall ?_; (first | (refine s_copyOwn 0 (cs := [.int .i64 p]) rfl rfl rfl (by show 1 = min 1 q.toNat; omega) (by rw [List.length_replicate]; show 0 + 1 ≤ q.toNat; omega) rfl (fun w hw j u hu => RInts.src (hv.keep (hw.cells rfl)) j u (by simpa [ivals] using hu)) rfl ?_) | (refine s_copyOwn 0 (cs := ivals (List.replicate (min j (q.toNat - j)) p)) rfl rfl rfl (by rw [ivals_length, List.length_replicate, Int.toNat_natCast] <;> first | done | rfl) (by rw [ivals_length, ivals_length, List.length_replicate, fillP_length _ (by omega)]; omega) (oneCells_ivals _) (fun w hw m u hu => by rw [Addr.add_lit, Nat.zero_add]; exact hw.captured (i := 0) rfl m u (fillP_src p hu)) rfl ?_) | apply s_step)) | (refine kStore ?_; (first | refine s_store1 _ rfl rfl gpA rfl (by rfl) ?_ | refine s_storeS _ rfl rfl gpA rfl rfl (by rfl) ?_ | refine s_storeS _ rfl rfl gpA rfl (ones_img oiA) (by rfl) ?_)) | refine s_boxS rfl rfl (fun b hb => ?_) | refine s_allocS rfl (fun b hb => ?_) | refine s_box1 rfl rfl rfl (fun b hb => ?_) | refine s_alloc1 rfl rfl (fun b hb => ?_) | (refine kWMake ?_; (refine s_make1 rfl rfl rfl ⟨by omega, by omega, by omega⟩ (by omega) rfl (fun b hb => ?_))) | refine s_buildSlice0 rfl (fun b hb => ?_) | refine s_buildSlice rfl rfl rfl rfl rfl (fun b hb => ?_) | apply s_step)) | (refine kG ?_; (first | refine s_gyes rfl rfl rfl ?_ | refine s_gno rfl rfl rfl rfl rfl ?_ | ((first | refine s_split_d rfl rfl (fun h => ?_) (fun h => ?_) | refine s_split_n rfl rfl (fun h => ?_) (fun h => ?_)) <;> (try (first | contradiction | (exfalso; omega)))) | refine s_split_nb rfl rfl (fun h => ?_) (fun h => ?_) | refine s_split rfl rfl (fun h => ?_) (fun h => ?_))) | (refine kS ?_; (first | refine h_exec rfl ?_ | refine h_take_nil rfl rfl rfl ?_ | refine h_take_pick rfl rfl rfl ?_ | refine h_nil ?_ | refine h_alt ?_ ?_ | apply h_take)) | refine h_back_last rfl ?_ | refine h_back subA ?_ | refine l_then ?_ | (refine kC ?_; (first | (refine c_regionSub (SPlan.take 0 (SPlan.take 1 (SPlan.take 2 (SPlan.take 3 (SPlan.take 4 (SPlan.take 5 (SPlan.take 6 (SPlan.run 7 (SPlan.take 8 (SPlan.take 9 SPlan.done)))))))))) none [false] rfl rfl (by decide +kernel) ?_) | (refine c_loopV (ι := Nat) (fun j => 1 ≤ j ∧ j ≤ q.toNat) (fun j => [(8, .int .i64 (j : Int))]) (fun j => [[(b, srow (ivals (fillP p q.toNat j)) 3)]]) (fun j => q.toNat - j) 1 (by omega) rfl (fun _ => rfl) ⟨rfl, trivial⟩ (fun w hw => by have e := fillP_one p (n := q.toNat); rw [← e]; exact hw) (fun j hj => ?_)) | refine c_seq ?_ | refine c_region ?_ | refine c_ret ?_ | (refine kCond ?_; (first | refine c_cond_t rfl ?_ | refine c_cond_f rfl ?_ | ((first | refine c_cond_d rfl (fun h => ?_) (fun h => ?_) | refine c_cond_n rfl (fun h => ?_) (fun h => ?_)) <;> (try (first | contradiction | (exfalso; omega)))) | refine c_cond_nb rfl (fun h => ?_) (fun h => ?_) | refine c_cond rfl (fun h => ?_) (fun h => ?_))) | refine c_block ?_ | refine c_skip ?_ | refine c_exit ?_ | refine c_regionQ rfl (by decide +kernel) ?_)) | apply s_stepQ | (refine kQG ?_; (first | refine s_gyesQ rfl rfl rfl ?_ | refine s_gnoQ rfl rfl rfl rfl rfl ?_ | ((first | refine s_splitQ_d rfl rfl (fun h => ?_) (fun h => ?_) | refine s_splitQ_n rfl rfl (fun h => ?_) (fun h => ?_)) <;> (try (first | contradiction | (exfalso; omega)))) | refine s_splitQ_nb rfl rfl (fun h => ?_) (fun h => ?_) | refine s_splitQ rfl rfl (fun h => ?_) (fun h => ?_))) | refine lQ_then ?_ | refine lQ_ends ?_ | (refine kE ?_; (first | refine e_then_r ?_ | refine e_block_r ?_ | refine e_then_n ?_ | refine e_then_x ?_ | refine e_block_n ?_ | refine e_block_x ?_ | refine e_block_y rfl ?_)) | refine l_ends ?_)
  · refine e_round (j + min j (q.toNat - j)) ⟨by omega, by omega⟩ ⟨slook_to rfl (vint_to (by rw [ivals_length, List.length_replicate]; push_cast; omega)), (by repeat' first | exact trivial | refine ⟨rfl, ?_⟩)⟩ (fun w hw => ?_) (by omega)
    rw [show 0 + (j : Int).toNat = j by omega, fillP_copy p (by omega)] at hw
    exact hw
  · obtain rfl : j = q.toNat := by omega
    rw [fillP_all]
    refine s_leave1 rfl rfl (fun w hw => ⟨_, _, rfl, ?_, hw.toFresh (i := 0) rfl⟩)
    have := OInts.whole 3 b (List.replicate q.toNat p) (by rw [List.length_replicate]; unfold maxLen; omega)
    rw [List.length_replicate] at this
    exact this
end Go.Proofs.YtfmjeakcfmmkfaaGreat
